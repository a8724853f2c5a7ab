import PyProof.Rows.All
import Wide.All
import OpenK.AllK
import Wide.FinOn
import HandS.ForMost
import HandS.Conv
import HandS.Deep
import HandS.IsInst
import KE.SortData
import KE.KDictKeyed
import HandS.SuiteRaise
import HandS.ExcIs
import HandS.WordsExc
import PyProof.Rows.StrSplitCount
import PyProof.Rows.StrSplitJoin
import KE.RegKIsAll
import PySem.Challenge.RW_cornerfill_k13_boards_read_or_refused
set_option Elab.async false
set_option linter.all false
set_option maxRecDepth 100000
set_option maxHeartbeats 4000000
/-! CFBase: data over the abstract heap, rules for sorted, nested keys, callee bundles. -/
namespace CF
open PySem PySem.Spec PyProof.Rows L2

/-! ### heaps -/
def TP (H H' : Hp) : Prop := ∀ b xs, H b = some (.tup xs) → H' b = some (.tup xs)
theorem TP.refl (H : Hp) : TP H H := fun _ _ h => h
theorem TP.trans {H H1 H2 : Hp} (a : TP H H1) (b : TP H1 H2) : TP H H2 := fun c xs h => b c xs (a c xs h)
theorem TP.of {H H' : Hp} (s : Same H H') : TP H H' := fun b xs h => s b _ h
theorem TP.new {H : Hp} {p : Addr} {o : HO} (h : H p = none) : TP H (upd H p o) := fun b xs e => by
  rw [upd_ne (ne_of_none e h)]; exact e
theorem TP.mut {H : Hp} {p : Addr} {o o' : HO} (h : H p = some o) (hn : ∀ xs, o ≠ .tup xs) : TP H (upd H p o') := fun b xs e => by
  have hb : b ≠ p := by
    rintro rfl
    rw [h] at e
    exact hn xs (Option.some.inj e)
  rw [upd_ne hb]; exact e
theorem sameNew {H : Hp} {p : Addr} {o : HO} (h : H p = none) : Same H (upd H p o) := fun b u e => by
  rw [upd_ne (ne_of_none e h)]; exact e
theorem sameMut {H H' : Hp} {p : Addr} {o : HO} (e : Same H H') (h : H p = none) : Same H (upd H' p o) := fun a u ha => by
  rw [upd_ne (ne_of_none ha h)]; exact e a u ha
/-- all but the object at p stays -/
def But (p : Addr) (H H' : Hp) : Prop := ∀ b o, b ≠ p → H b = some o → H' b = some o
theorem But.upd {H : Hp} {p : Addr} {o : HO} : But p H (upd H p o) := fun b u hb e => by rw [upd_ne hb]; exact e
theorem But.trans {p : Addr} {H H1 H2 : Hp} (a : But p H H1) (b : But p H1 H2) : But p H H2 := fun c o h e => b c o h (a c o h e)
theorem But.of {p : Addr} {H H' : Hp} (s : Same H H') : But p H H' := fun b o _ e => s b o e
theorem But.same {p : Addr} {H0 H H' : Hp} (s : Same H0 H) (k : But p H H') (n : H0 p = none) : Same H0 H' := fun b o e => k b o (ne_of_none e n) (s b o e)

/-! ### what reads as data -/
abbrev Cell := Int × Int
def CellV (H : Hp) (v : V) (c : Cell) : Prop := ∃ a, v = .ref a ∧ H a = some (.tup [.int c.1, .int c.2])
def IntV (_H : Hp) (v : V) (i : Int) : Prop := v = .int i
def BoolV (_H : Hp) (v : V) (i : Bool) : Prop := v = .bl i
def StrV (_H : Hp) (v : V) (i : Str) : Prop := v = .str i
def TupV {α : Type} (R : Hp → V → α → Prop) (H : Hp) (v : V) (l : List α) : Prop := ∃ a vs, v = .ref a ∧ H a = some (.tup vs) ∧ Paired (R H) vs l
/-- a list stands at a -/
def LsA {α : Type} (R : Hp → V → α → Prop) (H : Hp) (a : Addr) (l : List α) : Prop := ∃ vs, H a = some (.lst vs) ∧ Paired (R H) vs l
/-- data that lean on tuples alone -/
structure Rep {α : Type} (R : Hp → V → α → Prop) (enc : α → PyData) : Prop where
  mono : ∀ {H H' : Hp} {v : V} {x : α}, TP H H' → R H v x → R H' v x
  dp : ∀ {K : PySem.W.Frag} {H : Hp} {v : V} {x : α}, R H v x → Dp K H v (enc x)
theorem pair_mono {α : Type} {R : Hp → V → α → Prop} {enc : α → PyData} (r : Rep R enc) {H H' : Hp} (t : TP H H') {vs : List V} {l : List α} (p : Paired (R H) vs l) : Paired (R H') vs l := Paired.mono (fun _ _ => r.mono t) p
theorem pair_dp {α : Type} {R : Hp → V → α → Prop} {enc : α → PyData} (r : Rep R enc) {K : PySem.W.Frag} {H : Hp} : ∀ {vs : List V} {l : List α}, Paired (R H) vs l → DpAll K H vs (l.map enc)
  | _, _, .nil => .nil
  | _, _, .cons h t => .cons (r.dp h) (pair_dp r t)
theorem LsA.dp {α : Type} {R : Hp → V → α → Prop} {enc : α → PyData} (r : Rep R enc) {K : PySem.W.Frag} {H : Hp} {a : Addr} {l : List α} (h : LsA R H a l) : Dp K H (.ref a) (.list (l.map enc)) := by
  obtain ⟨vs, e, p⟩ := h
  exact .lst (SqL.of e) (pair_dp r p)
theorem LsA.keep {α : Type} {R : Hp → V → α → Prop} {enc : α → PyData} (r : Rep R enc) {H H' : Hp} {a : Addr} {l : List α} (h : LsA R H a l) (s : Same H H') : LsA R H' a l := by
  obtain ⟨vs, e, p⟩ := h
  exact ⟨vs, s _ _ e, pair_mono r (TP.of s) p⟩
theorem TP.lst {H : Hp} {p : Addr} {xs : List V} {o : HO} (h : H p = some (.lst xs)) : TP H (upd H p o) := TP.mut h (by intro ys z; cases z)
theorem push_ls {α : Type} {R : Hp → V → α → Prop} {enc : α → PyData} (r : Rep R enc) {H : Hp} {D : Addr} {acc : List V} {l : List α} {v : V} {x : α} (hD : H D = some (.lst acc)) (pa : Paired (R H) acc l) (hx : R H v x) :
    LsA R (upd H D (.lst (acc ++ [v]))) D (l ++ [x]) := ⟨acc ++ [v], upd_same, (pair_mono r (TP.lst hD) pa).snoc (r.mono (TP.lst hD) hx)⟩
theorem pair_app {α β : Type} {F : α → β → Prop} : ∀ {l₁ l₂ : List α} {m₁ m₂ : List β}, Paired F l₁ m₁ → Paired F l₂ m₂ → Paired F (l₁ ++ l₂) (m₁ ++ m₂)
  | _, _, _, _, .nil, s => s
  | _, _, _, _, .cons r t, s => .cons r (pair_app t s)
theorem pair_rev {α β : Type} {F : α → β → Prop} : ∀ {l : List α} {m : List β}, Paired F l m → Paired F l.reverse m.reverse
  | _, _, .nil => .nil
  | _, _, .cons r t => by
    rw [List.reverse_cons, List.reverse_cons]
    exact (pair_rev t).snoc r
theorem ext_ls {α : Type} {R : Hp → V → α → Prop} {enc : α → PyData} (r : Rep R enc) {H : Hp} {D : Addr} {acc bs : List V} {l m : List α} (hD : H D = some (.lst acc)) (pa : Paired (R H) acc l) (pb : Paired (R H) bs m) :
    LsA R (upd H D (.lst (acc ++ bs))) D (l ++ m) := ⟨acc ++ bs, upd_same, pair_app (pair_mono r (TP.lst hD) pa) (pair_mono r (TP.lst hD) pb)⟩
theorem LsA.upd {α : Type} {R : Hp → V → α → Prop} {enc : α → PyData} (r : Rep R enc) {H : Hp} {a p : Addr} {l : List α} {xs : List V} {o : HO} (h : LsA R H a l) (hne : a ≠ p) (hp : H p = some (.lst xs)) : LsA R (upd H p o) a l := by
  obtain ⟨vs, e, q⟩ := h
  exact ⟨vs, by rw [upd_ne hne]; exact e, pair_mono r (TP.lst hp) q⟩
theorem LsA.ne {α : Type} {R : Hp → V → α → Prop} {H : Hp} {a p : Addr} {l : List α} (h : LsA R H a l) (hp : H p = none) : a ≠ p := by
  obtain ⟨vs, e, _⟩ := h
  exact ne_of_none e hp
def cD (c : Cell) : PyData := .tuple [.int c.1, .int c.2]
theorem rep_int : Rep IntV PyData.int := ⟨fun _ h => h, fun h => by cases h; exact .int _⟩
theorem rep_bool : Rep BoolV PyData.bool := ⟨fun _ h => h, fun h => by cases h; exact .bl _⟩
theorem rep_str : Rep StrV PyData.str := ⟨fun _ h => h, fun h => by cases h; exact .str _⟩
theorem rep_cell : Rep CellV cD := ⟨fun t ⟨a, e, h⟩ => ⟨a, e, t _ _ h⟩, fun {K H v x} ⟨a, e, h⟩ => by
  subst e
  exact .tup (SqT.of h) (.cons (.int _) (.cons (.int _) .nil))⟩
theorem rep_tup {α : Type} {R : Hp → V → α → Prop} {enc : α → PyData} (r : Rep R enc) : Rep (TupV R) (fun l => .tuple (l.map enc)) :=
  ⟨fun t ⟨a, vs, e, h, p⟩ => ⟨a, vs, e, t _ _ h, pair_mono r t p⟩, fun {K H v x} ⟨a, vs, e, h, p⟩ => by
    subst e
    exact .tup (SqT.of h) (pair_dp r p)⟩

/-! ### encodings that tell things apart -/
structure GE {α : Type} [DecidableEq α] (enc : α → PyData) (d : Nat) : Prop where
  eqv : ∀ a b, PyData.eqv (enc a) (enc b) = decide (a = b)
  lay : ∀ a, (enc a).canLay0 = true
  depth : ∀ a, (enc a).depth ≤ d
  like : ∀ a b, PySem.W.alike (enc a) (enc b) = true
theorem ge_int : GE PyData.int 0 := ⟨fun a b => by simp [PyData.eqv, Bool.beq_eq_decide_eq], fun _ => by simp [PyData.canLay0], fun _ => by simp [PyData.depth], fun _ _ => by simp [PySem.W.alike]⟩
theorem ge_bool : GE PyData.bool 0 := ⟨fun a b => by cases a <;> cases b <;> decide, fun _ => by simp [PyData.canLay0], fun _ => by simp [PyData.depth], fun _ _ => by simp [PySem.W.alike]⟩
theorem eqvAll_map {α : Type} [DecidableEq α] {enc : α → PyData} {d : Nat} (g : GE enc d) : ∀ l m : List α, PyData.eqvAll (l.map enc) (m.map enc) = decide (l = m)
  | [], [] => by simp [PyData.eqvAll]
  | [], _ :: _ => by simp [PyData.eqvAll]
  | _ :: _, [] => by simp [PyData.eqvAll]
  | a :: l, b :: m => by
    rw [List.map_cons, List.map_cons, PySem.W.eqv_all_cons, g.eqv, eqvAll_map g l m]
    by_cases h1 : a = b <;> by_cases h2 : l = m <;> simp [h1, h2]
theorem layAll_map {α : Type} [DecidableEq α] {enc : α → PyData} {d : Nat} (g : GE enc d) : ∀ l : List α, PyData.canLayAll0 (l.map enc) = true
  | [] => by simp [PyData.canLayAll0]
  | a :: l => by simp [PyData.canLayAll0, g.lay, layAll_map g l]
theorem depthAll_map {α : Type} [DecidableEq α] {enc : α → PyData} {d : Nat} (g : GE enc d) : ∀ l : List α, PyData.depthAll (l.map enc) ≤ d
  | [] => by simp [PyData.depthAll]
  | a :: l => by
    have h1 := depthAll_map g l
    have h2 := g.depth a
    simp only [List.map_cons, PyData.depthAll]
    omega
theorem likeAll_map {α : Type} [DecidableEq α] {enc : α → PyData} {d : Nat} (g : GE enc d) : ∀ l m : List α, PySem.W.alikeAll (l.map enc) (m.map enc) = true
  | [], _ => by simp [PySem.W.alikeAll]
  | _ :: _, [] => by simp [PySem.W.alikeAll]
  | a :: l, b :: m => by
    have h := likeAll_map g l m
    simp [PySem.W.alikeAll, g.like, h]
theorem ge_tup {α : Type} [DecidableEq α] {enc : α → PyData} {d : Nat} (g : GE enc d) : GE (fun l : List α => PyData.tuple (l.map enc)) (d + 1) :=
  ⟨fun l m => by rw [← eqvAll_map g l m]; simp [PyData.eqv], fun l => by simp [PyData.canLay0, layAll_map g l], fun l => by
    have := depthAll_map g l
    simp only [PyData.depth]
    omega, fun l m => by simp [PySem.W.alike, likeAll_map g l m]⟩
theorem ge_list {α : Type} [DecidableEq α] {enc : α → PyData} {d : Nat} (g : GE enc d) : GE (fun l : List α => PyData.list (l.map enc)) (d + 1) :=
  ⟨fun l m => by rw [← eqvAll_map g l m]; simp [PyData.eqv], fun l => by simp [PyData.canLay0, layAll_map g l], fun l => by
    have := depthAll_map g l
    simp only [PyData.depth]
    omega, fun l m => by simp [PySem.W.alike, likeAll_map g l m]⟩
theorem ge_cell : GE cD 1 := ⟨fun a b => by
    obtain ⟨a1, a2⟩ := a
    obtain ⟨b1, b2⟩ := b
    have e : PyData.eqv (cD (a1, a2)) (cD (b1, b2)) = ((a1 == b1) && ((a2 == b2) && true)) := by simp only [cD, PyData.eqv, PyData.eqvAll]
    rw [e, Bool.and_true]
    by_cases h1 : a1 = b1 <;> by_cases h2 : a2 = b2 <;> simp [h1, h2], fun _ => by simp [cD, PyData.canLay0, PyData.canLayAll0], fun _ => by simp [cD, PyData.depth, PyData.depthAll], fun _ _ => by simp [cD, PySem.W.alike, PySem.W.alikeAll]⟩
theorem GE.shaped {α : Type} [DecidableEq α] {enc : α → PyData} {d : Nat} (g : GE enc d) (hd : d ≤ 64) (a : α) : SeqAt.shaped (enc a) = true := by
  have h := g.depth a
  show ((enc a).canLay0 && decide ((enc a).depth ≤ 64)) = true
  rw [Bool.and_eq_true]
  exact ⟨g.lay a, decide_eq_true (by omega)⟩

/-! ### == and in, by data -/
section
variable {K : PySem.W.Frag} {H : Hp} {x y : V} {α : Type} [DecidableEq α] {enc : α → PyData} {d : Nat} {a b : α} {Q : VK}
theorem eq_rd (g : GE enc d) (hd : d ≤ 64) (hx : Dp K H x (enc a)) (hy : Dp K H y (enc b)) (q : Q (.bl (decide (a = b))) H) : rEqD K x y H Q :=
  ⟨_, _, hx, hy, g.shaped hd a, g.shaped hd b, by rw [g.eqv]; exact q⟩
theorem ne_rd (g : GE enc d) (hd : d ≤ 64) (hx : Dp K H x (enc a)) (hy : Dp K H y (enc b)) (q : Q (.bl (!decide (a = b))) H) : rNeD K x y H Q :=
  ⟨_, _, hx, hy, g.shaped hd a, g.shaped hd b, by rw [g.eqv]; exact q⟩
/-- two lists -/
theorem eq_ls {R : Hp → V → α → Prop} {p q : Addr} {l m : List α} (r : Rep R enc) (g : GE enc d) (hd : d < 64) (hx : LsA R H p l) (hy : LsA R H q m) (k : Q (.bl (decide (l = m))) H) : rEqD K (.ref p) (.ref q) H Q :=
  eq_rd (ge_list g) hd (hx.dp r) (hy.dp r) k
theorem ne_ls {R : Hp → V → α → Prop} {p q : Addr} {l m : List α} (r : Rep R enc) (g : GE enc d) (hd : d < 64) (hx : LsA R H p l) (hy : LsA R H q m) (k : Q (.bl (!decide (l = m))) H) : rNeD K (.ref p) (.ref q) H Q :=
  ne_rd (ge_list g) hd (hx.dp r) (hy.dp r) k
end

/-! ### sorted -/
/-- a tuple or not, all alike -/
structure SE {α : Type} (enc : α → PyData) : Prop where
  so : (∀ b, ∃ x r, enc b = .tuple (x :: r)) ∨ (∀ b, enc b ≠ .none ∧ ∀ xs, enc b ≠ .tuple xs)
theorem SE.sortable {α : Type} {enc : α → PyData} (s : SE enc) (bs : List α) : PySem.W.Sortable (bs.map enc) := by
  rcases s.so with h | h
  · exact PySem.W.Sortable.tuples h
  · exact PySem.W.Sortable.others h
theorem se_cell : SE cD := ⟨.inl fun b => ⟨_, _, rfl⟩⟩
theorem se_int : SE PyData.int := ⟨.inr fun b => ⟨(fun z => nomatch z), (fun _ z => nomatch z)⟩⟩
def rSortR {α : Type} (K : PySem.W.Frag) (R : Hp → V → α → Prop) (enc : α → PyData) : List V → Hp → VK → Prop := fun vs H Q => ∃ (a : Addr) (xs : List V) (bs : List α), vs = [.ref a] ∧ SqL K H a xs ∧ Paired (R H) xs bs ∧
  ∀ (ys : List V) (p : Addr), H p = none → Paired (R H) ys (bs.mergeSort (PySem.W.dataLe false enc)) → Q (.ref p) (upd H p (.lst ys))
/-- carried along: the value and what it reads as -/
theorem each_of {α : Type} {F : V → α → Prop} : ∀ {xs : List V} {us : List Value} {bs : List α}, Vals xs us → Paired F xs bs → PySem.W.EachIs (fun u b => ∃ x, RelV x u ∧ F x b) us bs
  | _, _, _, .nil, .nil => .nil
  | _, _, _, .cons r t, .cons h k => .cons ⟨_, r, h⟩ (each_of t k)
theorem of_each {α : Type} {F : V → α → Prop} : ∀ {us : List Value} {bs : List α}, PySem.W.EachIs (fun u b => ∃ x, RelV x u ∧ F x b) us bs → ∃ xs, Vals xs us ∧ Paired F xs bs
  | _, _, .nil => ⟨[], .nil, .nil⟩
  | _, _, .cons ⟨x, r, h⟩ t => by
    obtain ⟨xs, r', h'⟩ := of_each t
    exact ⟨x :: xs, .cons r r', .cons h h'⟩
theorem cr_sortedR {α : Type} [DecidableEq α] {X : Cx} {R : Hp → V → α → Prop} {enc : α → PyData} {d : Nat} (hu : X.A.units + 64 < cLine) (r : Rep R enc) (g : GE enc d) (se : SE enc) (hd : d ≤ 32) :
    CallR X (.builtin "sorted") (rSortR X.K R enc) := by
  intro pins s σ H vs us Q I rv h
  obtain ⟨a, xs, bs, rfl, hs, hp, q⟩ := h
  obtain ⟨its, rx, hl, hz⟩ := I.list hs
  rw [Vals.ref1 rv]
  have e0 := each_of rx hp
  have hlen : bs.length ≤ sizeLine := by rw [← Paired.length hp]; exact hz
  have er : PySem.W.EachIs (fun u b => ∃ as, Reads s.heap u (enc b) as) its bs := e0.mono fun u b h => by
    obtain ⟨x, r1, r2⟩ := h
    exact Dp.reads I _ x u (r.dp r2) r1
  have hdep : ∀ b, b ∈ bs → X.A.units + 2 + (enc b).depth < cLine := fun b _ => by
    have := g.depth b
    omega
  refine PySem.W.sorted_data (R := fun u b => ∃ x, RelV x u ∧ R H x b) (enc := enc) hl.isList e0 er (PySem.W.AllAlike.of g.like) (se.sortable bs) hlen hdep ?_
  intro out h1 h2
  obtain ⟨ys, ry, py⟩ := of_each h2
  obtain ⟨ep, he'⟩ := PyProof.Rows.sortedAll_at s.heap its out.toArray
  have hyl : ys.length ≤ sizeLine := by rw [ry.length, h1]; exact hlen
  exact ⟨.ref _, upd H (s.heap.objs.size + 1) (.lst ys), I.laid (t' := s.toks) (fun _ _ => PyProof.Rows.sortedAll_old) (Nat.le_succ _) ⟨hyl, out, ep, ry, he'⟩, rfl, q _ _ (I.hok.fresh (Nat.le_succ _)) py⟩

/-! ### callees in one bundle -/
/-- the def named x keeps the promise sp -/
def Df (P : Program) (w : World) (K : PySem.W.Frag) (mg : Str → Option Value) (base : Heap) (x : Str) (k : Nat) (ps : List Str) (sp : Sp) : Prop :=
  ∃ f fd, FnOk P w K mg base CX0 k f fd ps sp ∧ mg x = some (.ref f) ∧ PySem.W.keepIn K (.ref f) = true ∧ Binds K fd ps []
theorem Df.mono {P : Program} {w : World} {K : PySem.W.Frag} {mg : Str → Option Value} {base : Heap} {x : Str} {j k : Nat} {ps : List Str} {sp : Sp} (D : Df P w K mg base x j ps sp) (h : j ≤ k) : Df P w K mg base x k ps sp :=
  let ⟨f, fd, F, a, b, c⟩ := D
  ⟨f, fd, F.mono h, a, b, c⟩
theorem pe_cl {X : Cx} {x : Str} {k : Nat} {ps : List Str} {sp : Sp} {e : Expr} {es : List Expr} {p pos : Pos} {t : TA} (D : Df X.prog X.w X.K X.mg X.base x k ps sp) (hr : Room k X.A) (ha : PA X (e :: es) t) (hg : Gl X x := by rfl)
    (hd : (x == ("__debug__" : Str)) = false := by decide) (he : starEach (e :: es) X.env = (false, eval e X.env) :: starEach es X.env := by rfl) (hpl : (backTo pos (starEach es X.env)).any (·.1) = false := by rfl) :
    PE X (.Call (.Name x p) (e :: es) [] pos) (tCall sp [] E0 t) := by
  obtain ⟨f, fd, F, a, b, c⟩ := D
  exact pe_call F hr hg a b c .nil pass0 ha hd he hpl
theorem pe_cl0 {X : Cx} {x : Str} {k : Nat} {sp : Sp} {p pos : Pos} (D : Df X.prog X.w X.K X.mg X.base x k [] sp) (hr : Room k X.A) (hg : Gl X x := by rfl)
    (hd : (x == ("__debug__" : Str)) = false := by decide) : PE X (.Call (.Name x p) [] [] pos) (tCall sp [] E0 tNil) := by
  obtain ⟨f, fd, F, a, b, c⟩ := D
  exact pe_call0 F hr hg a b c .nil pass0 hd
/-- a method of the class at C -/
def Mf (P : Program) (w : World) (K : PySem.W.Frag) (mg : Str → Option Value) (base : Heap) (C : Addr) (m : Str) (k : Nat) (ps : List Str) (sp : Sp) : Prop :=
  ∃ f fd, FnOk P w K mg base CX0 k f fd ps sp ∧ Meth K C m f ∧ Binds K fd ps []
theorem pe_mth0 {X : Cx} {C : Addr} {m : Str} {k : Nat} {ps : List Str} {sp : Sp} {o : Expr} {pos apos : Pos} {ta : TE} {pl : Sem Bool} (he : PE X o ta) (c : Cls X.K C) (M : Mf X.prog X.w X.K X.mg X.base C m k ps sp) (hr : Room k X.A)
    (ht : eval (.Call (.Attribute o m apos) [] [] pos) X.env = (do
      let ov ← eval o X.env
      standAt apos.atName
      let (f, first) ← holding [ov] (getMethod ov m pl)
      callWith pos f first (backTo pos (starEach [] X.env)) (backToKw pos (keywordEach [] X.env))) := by rfl) :
    PE X (.Call (.Attribute o m apos) [] [] pos) (tMeth C m sp [] E0 ta tNil) := by
  obtain ⟨f, fd, F, a, b⟩ := M
  exact pe_meth0 he c a F hr b .nil pass0 ht
/-- the class at C, made by an __init__ that keeps the promise -/
def Bm (P : Program) (w : World) (K : PySem.W.Frag) (mg : Str → Option Value) (base : Heap) (x : Str) (C : Addr) (k : Nat) (ps : List Str) (sp : Sp) : Prop :=
  ∃ f fd, FnOk P w K mg base CX0 k f fd ps sp ∧ Mk K C f ∧ mg x = some (.ref C) ∧ Binds K fd ps []
theorem pe_mk {X : Cx} {x : Str} {C : Addr} {k : Nat} {ps : List Str} {sp : Sp} {e : Expr} {es : List Expr} {p pos : Pos} {t : TA} (D : Bm X.prog X.w X.K X.mg X.base x C k ps sp) (hr : Room (k + 1) X.A) (ha : PA X (e :: es) t) (hg : Gl X x := by rfl)
    (hd : (x == ("__debug__" : Str)) = false := by decide) (he : starEach (e :: es) X.env = (false, eval e X.env) :: starEach es X.env := by rfl) (hpl : (backTo pos (starEach es X.env)).any (·.1) = false := by rfl) :
    PE X (.Call (.Name x p) (e :: es) [] pos) (tMake C sp [] E0 t) := by
  obtain ⟨f, fd, F, M, a, b⟩ := D
  exact pe_make M F hr hg a b .nil pass0 ha hd he hpl
/-- a def of the module as the top left it -/
def DefIn (K : PySem.W.Frag) (mg : Str → Option Value) (x : Str) (st : Stmt) (ps : List Str) : Prop := ∃ f fd, Fun K x x st f fd ∧ mg x = some (.ref f) ∧ Binds K fd ps []
theorem DefIn.df {P : Program} {w : World} {K : PySem.W.Frag} {mg : Str → Option Value} {base : Heap} {x : Str} {st : Stmt} {k : Nat} {ps : List Str} {sp : Sp} (D : DefIn K mg x st ps)
    (ok : ∀ f fd, Fun K x x st f fd → FnOk P w K mg base CX0 k f fd ps sp) : Df P w K mg base x k ps sp :=
  let ⟨f, fd, F, a, b⟩ := D
  ⟨f, fd, ok f fd F, a, F.kp, b⟩
def MethIn (K : PySem.W.Frag) (C : Addr) (m q : Str) (st : Stmt) (ps : List Str) : Prop := ∃ f fd, Fun K m q st f fd ∧ Meth K C m f ∧ Binds K fd ps []
theorem MethIn.mf {P : Program} {w : World} {K : PySem.W.Frag} {mg : Str → Option Value} {base : Heap} {C : Addr} {m q : Str} {st : Stmt} {k : Nat} {ps : List Str} {sp : Sp} (D : MethIn K C m q st ps)
    (ok : ∀ f fd, Fun K m q st f fd → FnOk P w K mg base CX0 k f fd ps sp) : Mf P w K mg base C m k ps sp :=
  let ⟨f, fd, F, a, b⟩ := D
  ⟨f, fd, ok f fd F, a, b⟩
def InitIn (K : PySem.W.Frag) (mg : Str → Option Value) (x : Str) (C : Addr) (q : Str) (st : Stmt) (ps : List Str) : Prop := ∃ f fd, Fun K "__init__" q st f fd ∧ Mk K C f ∧ mg x = some (.ref C) ∧ Binds K fd ps []
theorem InitIn.bm {P : Program} {w : World} {K : PySem.W.Frag} {mg : Str → Option Value} {base : Heap} {x : Str} {C : Addr} {q : Str} {st : Stmt} {k : Nat} {ps : List Str} {sp : Sp} (D : InitIn K mg x C q st ps)
    (ok : ∀ f fd, Fun K "__init__" q st f fd → FnOk P w K mg base CX0 k f fd ps sp) : Bm P w K mg base x C k ps sp :=
  let ⟨f, fd, F, a, b, c⟩ := D
  ⟨f, fd, ok f fd F, a, b, c⟩
/-- a module's whole number -/
theorem pe_gint {X : Cx} {x : Str} {i : Int} {pos : Pos} (h : ∃ t, X.mg x = some (.int i t)) (hg : Gl X x := by rfl) (hd : (x == ("__debug__" : Str)) = false := by decide) : PE X (.Name x pos) (tC (.int i)) := by
  obtain ⟨t, h⟩ := h
  exact pe_glob hg h ⟨_, rfl⟩ hd

/-! ### the rules with the written part said -/
section
variable {X : Cx} {e a b l tg : Expr} {ta tb te tl to : TE} {f : Str} {pos apos cpos : Pos} {es : List Expr}
theorem pe_fldK (K : PySem.W.Frag) (hK : X.K = K) (he : PE X e ta) (hb : attributeBase e f X.env (eval e X.env) = eval e X.env) : PE X (.Attribute e f pos) (tFld K ta f) := by
  subst hK; exact pe_fld he hb
theorem pg_tupK (K : PySem.W.Frag) (n : Nat) (hK : X.K = K) {k : Nat} {t : TGs} (hc : X.calm = true) (h : PGs X es t) (hn : (assignEach es X.env).length = n) (hst : (assignEach es X.env).findIdx? (·.1) = none) : PG X (.Tuple es k pos) (gTup K n t) := by
  subst hK; exact pg_tup hc h hn hst
theorem pe_ixLK (K : PySem.W.Frag) (hK : X.K = K) (ha : PE X a ta) (hb : PE X b tb) (hs : PlainIx b) : PE X (.Subscript a b pos) (tOp (rIxL K) ta tb) := by
  subst hK; exact pe_ix ix_list ha hb hs
theorem pe_ixTK (K : PySem.W.Frag) (hK : X.K = K) (ha : PE X a ta) (hb : PE X b tb) (hs : PlainIx b) : PE X (.Subscript a b pos) (tOp (rIxT K) ta tb) := by
  subst hK; exact pe_ix ix_tup ha hb hs
theorem pi_listK (K : PySem.W.Frag) (hK : X.K = K) (hl : PE X l tl) : PI X tg l (iList K tl) := by
  subst hK; exact pi_list hl
theorem pi_tupK (K : PySem.W.Frag) (hK : X.K = K) (hl : PE X l tl) : PI X tg l (iTup K tl) := by
  subst hK; exact pi_tup hl
def rListOf (K : PySem.W.Frag) : List V → Hp → VK → Prop := fun xs H Q => ∃ p ys, xs = [.ref p] ∧ (SqL K H p ys ∨ SqT K H p ys) ∧ ∀ l, H l = none → Q (.ref l) (upd H l (.lst ys))
def rTupOf (K : PySem.W.Frag) : List V → Hp → VK → Prop := fun xs H Q => ∃ p ys, xs = [.ref p] ∧ ((SqL K H p ys ∧ ∀ l, H l = none → Q (.ref l) (upd H l (.tup ys))) ∨ (SqT K H p ys ∧ Q (.ref p) H))
def rLenOf (K : PySem.W.Frag) : List V → Hp → VK → Prop := fun xs H Q => ∃ p ys, xs = [.ref p] ∧ (SqL K H p ys ∨ SqT K H p ys) ∧ Q (.int ys.length) H
theorem cr_list (K : PySem.W.Frag) (hK : X.K = K) : CallR X (.type "list") (rListOf K) := by subst hK; exact call_list_of
theorem cr_tuple (K : PySem.W.Frag) (hK : X.K = K) : CallR X (.type "tuple") (rTupOf K) := by subst hK; exact call_tuple_of
theorem cr_len (K : PySem.W.Frag) (hK : X.K = K) : CallR X (.builtin "len") (rLenOf K) := by subst hK; exact call_len_seq
theorem cr_isi (K : PySem.W.Frag) (hK : X.K = K) : CallR X (.builtin "isinstance") (rIsi K) := by subst hK; exact call_isi
theorem op_eqK (K : PySem.W.Frag) (hK : X.K = K) (hu : X.A.units + 64 < cLine) : OpR X (compareOp .Eq) (rEqD K) := by subst hK; exact op_eqD hu
theorem op_neK (K : PySem.W.Frag) (hK : X.K = K) (hu : X.A.units + 64 < cLine) : OpR X (compareOp .NotEq) (rNeD K) := by subst hK; exact op_neD hu
theorem op_inK (K : PySem.W.Frag) (hK : X.K = K) : OpR X (compareOp .In) (rIn K false) := by subst hK; exact op_in_seq
theorem op_notInK (K : PySem.W.Frag) (hK : X.K = K) : OpR X (compareOp .NotIn) (rIn K true) := by subst hK; exact op_notIn_seq
theorem sl_lK (K : PySem.W.Frag) (hK : X.K = K) : SlR X (rSlL K) := by subst hK; exact sl_list
theorem cr_sortK (K : PySem.W.Frag) {α : Type} [DecidableEq α] {R : Hp → V → α → Prop} {enc : α → PyData} {d : Nat} (r : Rep R enc) (g : GE enc d) (se : SE enc) (hd : d ≤ 32) (hK : X.K = K) (hu : X.A.units + 64 < cLine) :
    CallR X (.builtin "sorted") (rSortR K R enc) := by subst hK; exact cr_sortedR hu r g se hd
theorem pe_bmK (K : PySem.W.Frag) (hK : X.K = K) {T id : String} {name : Str} {r : V → List V → Hp → VK → Prop} {o e : Expr} {es : List Expr} {t : TA} (pa : PlainAttrs T) (slot : Slot T name id) (hty : typeOf (.builtin id) = pure (.type "method_descriptor")) (hm : MtR X id r) (ho : PE X o to) (ha : PA X (e :: es) t)
    (hbase : attributeBase o name X.env (eval o X.env) = eval o X.env := by rfl)
    (hfew : ((backTo cpos (starEach (e :: es) X.env)).all (fun x => !x.1) && (backToKw cpos (keywordEach [] X.env)).all (fun x => x.1.isSome)
      && decide ((e :: es).length + ([] : List Keyword).length + (if ([] : List Keyword).isEmpty then 0 else 1) < 30)) = true := by rfl)
    (hline : (apos.endLine == cpos.line) = true := by rfl) (hs : starEach (e :: es) X.env = (false, eval e X.env) :: starEach es X.env := by rfl) (hplain : (backTo cpos (starEach es X.env)).any (·.1) = false := by rfl) :
    PE X (.Call (.Attribute o name apos) (e :: es) [] cpos) (tBM K T r to t) := by
  subst hK; exact pe_bm pa slot hty hm ho ha hbase hfew hline hs hplain
theorem pe_bm0K (K : PySem.W.Frag) (hK : X.K = K) {T id : String} {name : Str} {r : V → List V → Hp → VK → Prop} {o : Expr} (pa : PlainAttrs T) (slot : Slot T name id) (hty : typeOf (.builtin id) = pure (.type "method_descriptor")) (hm : MtR X id r) (ho : PE X o to)
    (hbase : attributeBase o name X.env (eval o X.env) = eval o X.env := by rfl) (hline : (apos.endLine == cpos.line) = true := by rfl) : PE X (.Call (.Attribute o name apos) [] [] cpos) (tBM0 K T r to) := by
  subst hK; exact pe_bm0 pa slot hty hm ho hbase hline
end

/-! ### a for over a list or a tuple -/
def SqA (K : PySem.W.Frag) (H : Hp) (a : Addr) (xs : List V) : Prop := SqL K H a xs ∨ SqT K H a xs
theorem sameT {K : PySem.W.Frag} {H H' : Hp} {a : Addr} {xs : List V} (e : Same H H') (h : SqT K H a xs) : SqT K H' a xs := by
  rcases h with (h | ⟨o, h⟩) | h
  · exact .inl (.inl (e _ _ h))
  · exact .inl (.inr ⟨o, e _ _ h⟩)
  · exact .inr h
theorem SqA.keep {K : PySem.W.Frag} {H H' : Hp} {a : Addr} {xs : List V} (h : SqA K H a xs) (e : Same H H') : SqA K H' a xs := h.elim (fun h => .inl (e.seq h)) fun h => .inr (sameT e h)
def iSeq (K : PySem.W.Frag) (tl : TE) : TI := fun σ H R => tl σ H fun x H1 => ∃ a, x = .ref a ∧ (((∃ xs, SqL K H1 a xs) ∧ R (Itl K a) H1) ∨ ((∃ xs, SqT K H1 a xs) ∧ R (Itt K a) H1))
theorem pi_seqK {X : Cx} {tg l : Expr} {tl : TE} (K : PySem.W.Frag) (hK : X.K = K) (hl : PE X l tl) : PI X tg l (iSeq K tl) := by
  subst hK
  refine ⟨fun pins s σ H R I h => ?_⟩
  refine thn (hl.run pins s σ H _ I h) fun v s1 ⟨x, H1, I1, r1, a, e, q1⟩ => ?_
  subst e
  cases r1
  rcases q1 with ⟨⟨xs, hq⟩, q⟩ | ⟨⟨xs, hq⟩, q⟩
  · obtain ⟨its, rv, p, hz⟩ := I1.list hq
    refine wpAny_pyIter_list p.isList ?_
    refine ⟨s1.heap.objs.size, [s1.heap.objs.size], _, _, H1, rfl, I1.kept (t' := s1.toks) fun b o e => Heap.get?_push_of_some _ e, turn_list a _, ⟨_, Heap.get?_push_size _ rfl, rfl, rfl⟩, fun b hb => ?_, q⟩
    have e : b = s1.heap.objs.size := by simpa using hb
    subst e
    exact I1.fpOk (Nat.le_refl _) (I1.hok.fresh (Nat.le_refl _))
  · obtain ⟨its, rv, p, hz⟩ := I1.tuple hq
    refine wpAny_pyIter_tuple (show s1.heap.IsTuple a its.toArray from p) ?_
    refine ⟨s1.heap.objs.size, [s1.heap.objs.size], _, _, H1, rfl, I1.kept (t' := s1.toks) fun b o e => Heap.get?_push_of_some _ e, turn_tuple a _, ⟨_, Heap.get?_push_size _ rfl, rfl, rfl⟩, fun b hb => ?_, q⟩
    have e : b = s1.heap.objs.size := by simpa using hb
    subst e
    exact I1.fpOk (Nat.le_refl _) (I1.hok.fresh (Nat.le_refl _))
def ForR (J : It) (g : TG) (tb : TS) (D : Ends) (σ : L2.St) (H : Hp) : Prop := ∃ W : Nat → Nat → L2.St → Hp → Prop, (∃ m, W 0 m σ H) ∧ ∀ i m σ H, W i m σ H →
  (J.stop i H ∧ D.nx σ H) ∨ (J.go i H ∧ ∃ N : L2.St → Hp → Prop, (∀ σ' H', N σ' H' → ∃ m', m' < m ∧ W (i + 1) m' σ' H') ∧ ∀ x H', J.yld i H x H' → g x σ H' fun σ2 H2 => tb { D with nx := N, ct := N, bk := D.nx } σ2 H2)
theorem for_seq {K : PySem.W.Frag} {a : Addr} {xs : List V} {g : TG} {tb : TS} {D : Ends} {σ : L2.St} {H0 H : Hp} (hq : SqA K H0 a xs) (sm : Same H0 H) (Pv : Nat → L2.St → Hp → Prop) (h0 : Pv 0 σ H) (hl : ∀ i σ H', Pv i σ H' → Same H0 H')
    (hs : ∀ i x σ H, xs[i]? = some x → Pv i σ H → g x σ H fun σ2 H2 => tb { D with nx := Pv (i + 1), ct := Pv (i + 1), bk := D.nx } σ2 H2) (hd : ∀ σ H, Pv xs.length σ H → D.nx σ H) :
    ((∃ xs, SqL K H a xs) ∧ ForR (Itl K a) g tb D σ H) ∨ ((∃ xs, SqT K H a xs) ∧ ForR (Itt K a) g tb D σ H) := by
  rcases hq with h | h
  · exact .inl ⟨⟨_, sm.seq h⟩, for_list Pv h0 (fun i σ H' _ p => (hl _ _ _ p).seq h) hs hd⟩
  · exact .inr ⟨⟨_, sameT sm h⟩, for_tup Pv h0 (fun i σ H' _ p => sameT (hl _ _ _ p) h) hs hd⟩
/-! ### ways joined behind a statement -/
def tCut (t : TS) : TS := fun D σ H => ∃ P : L2.St → Hp → Prop, t { D with nx := P } σ H ∧ ∀ σ' H', P σ' H' → D.nx σ' H'
theorem ps_cut {X : Cx} {st : Stmt} {t : TS} (h : PS X st t) : PS X st (tCut t) := by
  refine ⟨fun pins s σ H D I hw => ?_⟩
  obtain ⟨P, hw, hk⟩ := hw
  refine thn (h.run pins s σ H _ I hw) fun f s' hs => ?_
  cases f with
  | next =>
    obtain ⟨σ', H', J, q⟩ := hs
    exact ⟨σ', H', J, hk _ _ q⟩
  | brk => exact hs
  | cont => exact hs
  | ret u => exact hs
/-! ### the built-in names -/
structure Bl (mg : Str → Option Value) : Prop where
  len : mg "len" = none
  range : mg "range" = none
  sorted : mg "sorted" = none
  list : mg "list" = none
  tuple : mg "tuple" = none
  isinstance : mg "isinstance" = none
  min : mg "min" = none
  max : mg "max" = none
  sum : mg "sum" = none
  int : mg "int" = none
  bool : mg "bool" = none
  str : mg "str" = none
  ValueError : mg "ValueError" = none
theorem bt_len : bootBuiltins "len" = some (.builtin "len") := by decide +kernel
theorem bt_sorted : bootBuiltins "sorted" = some (.builtin "sorted") := by decide +kernel
theorem bt_isinstance : bootBuiltins "isinstance" = some (.builtin "isinstance") := by decide +kernel
theorem bt_min : bootBuiltins "min" = some (.builtin "min") := by decide +kernel
theorem bt_max : bootBuiltins "max" = some (.builtin "max") := by decide +kernel
theorem bt_sum : bootBuiltins "sum" = some (.builtin "sum") := by decide +kernel
theorem bt_list : bootBuiltins "list" = some (.type "list") := by decide +kernel
theorem bt_tuple : bootBuiltins "tuple" = some (.type "tuple") := by decide +kernel
theorem bt_int : bootBuiltins "int" = some (.type "int") := by decide +kernel
theorem bt_bool : bootBuiltins "bool" = some (.type "bool") := by decide +kernel
theorem bt_str : bootBuiltins "str" = some (.type "str") := by decide +kernel

theorem putF_len (f : Str) (v : V) : ∀ fs : List (Str × V), (putF f v fs).length ≤ fs.length + 1
  | [] => by simp [putF]
  | (x, u) :: r => by
    unfold putF
    split
    · simp
    · have := putF_len f v r
      simp only [List.length_cons]
      omega
theorem big_line : 1000000 < sizeLine := by decide
/-! ### ifs -/
theorem iteN {P A B : Prop} [Decidable P] (h : ¬ P) (b : B) : if decide P = true then A else B := by rw [decide_eq_false h]; exact iteF b
theorem iteY {P A B : Prop} [Decidable P] (h : P) (a : A) : if decide P = true then A else B := by rw [decide_eq_true h]; exact iteT a
theorem iteD {P A B : Prop} [Decidable P] (a : P → A) (b : ¬ P → B) : if decide P = true then A else B := by
  by_cases h : P
  · exact iteY h (a h)
  · exact iteN h (b h)
theorem iteB {b : Bool} {A B : Prop} (t : b = true → A) (f : b = false → B) : if b = true then A else B := by
  cases b with
  | true => exact iteT (t rfl)
  | false => exact iteF (f rfl)
theorem getE {α β : Type} {F : α → β → Prop} : ∀ {xs : List α} {ys : List β} {i : Nat} {x : α}, Paired F xs ys → xs[i]? = some x → ∃ y, ys[i]? = some y ∧ F x y
  | _, _, _, _, .nil, e => by simp at e
  | _, _, 0, _, .cons r _, e => by simp at e; subst e; exact ⟨_, rfl, r⟩
  | _, _, i + 1, x, .cons _ t, e => by
    obtain ⟨u, h1, h2⟩ := getE (i := i) (x := x) t (by simpa using e)
    exact ⟨u, by simpa using h1, h2⟩
end CF

set_option Elab.async false
set_option linter.all false
set_option maxRecDepth 100000
set_option maxHeartbeats 4000000
/-! CFData: what a Board looks like, its plain functions. -/
namespace CF
open PySem PySem.Spec PyProof.Rows L2

/-- a cell as a key, an entry of the dict of gaps -/
def ck (c : Cell) : List Key := [.inl c.1, .inl c.2]
def gE (c : Cell) : List Key × V := (ck c, .bl true)
theorem ck_inj {a b : Cell} (h : ck a = ck b) : a = b := by
  unfold ck at h
  injection h with h1 h2
  injection h2 with h2 _
  injection h1 with h1
  injection h2 with h2
  exact Prod.ext h1 h2
theorem ck_iff {a b : Cell} : ck a = ck b ↔ a = b := ⟨ck_inj, fun h => by rw [h]⟩
theorem valV_gE (g : List Cell) (c : Cell) : valV (g.map gE) (ck c) = if c ∈ g then some (.bl true) else none := by
  induction g with
  | nil => simp [valV_nil]
  | cons a g ih =>
    rw [List.map_cons]
    by_cases h : a = c
    · subst h
      rw [valV_pos (by rfl)]
      simp [gE]
    · rw [valV_neg (fun e => h (ck_inj e)), ih]
      have : ¬ c = a := fun e => h e.symm
      simp [this]
theorem valV_gE_some (g : List Cell) (c : Cell) : (valV (g.map gE) (ck c)).isSome = decide (c ∈ g) := by
  rw [valV_gE]
  by_cases h : c ∈ g <;> simp [h]
theorem putK_gE {g : List Cell} {c : Cell} (h : c ∉ g) : putK (g.map gE) (ck c) (.bl true) = (g ++ [c]).map gE := by
  rw [putK_new _ (by rw [valV_gE, if_neg h]), List.map_append]
  rfl
theorem valV_gE_put (g : List Cell) (c : Cell) : putK (g.map gE) (ck c) (.bl true) = (if c ∈ g then g else g ++ [c]).map gE := by
  by_cases h : c ∈ g
  · rw [if_pos h]
    unfold putK
    have : ((g.map gE).any fun kv => decide (kv.1 = ck c)) = true := by
      rw [valV_any, valV_gE, if_pos h]; rfl
    rw [if_pos this, List.map_map]
    refine List.map_congr_left fun x _ => ?_
    show (if (gE x).1 = ck c then ((gE x).1, V.bl true) else gE x) = gE x
    split <;> rfl
  · rw [if_neg h, putK_gE h]

/-- the cells of a board -/
def InB (w h : Int) (g : List Cell) : Prop := ∀ c ∈ g, 0 ≤ c.1 ∧ c.1 < w ∧ 0 ≤ c.2 ∧ c.2 < h
def Sides (w h : Int) : Prop := 1 ≤ w ∧ w ≤ 16 ∧ 1 ≤ h ∧ h ≤ 16
/-- the open cells of the column x below y -/
def colTo (g : List Cell) (x : Int) (n : Nat) : List Cell := ((List.range n).map fun k : Nat => ((x, (k : Int)) : Cell)).filter fun c => decide (c ∉ g)
def openTo (g : List Cell) (h : Int) (n : Nat) : List Cell := (List.range n).flatMap fun k : Nat => colTo g (k : Int) h.toNat
def openC (w h : Int) (g : List Cell) : List Cell := openTo g h w.toNat
theorem colTo_succ (g : List Cell) (x : Int) (n : Nat) : colTo g x (n + 1) = colTo g x n ++ if (x, (n : Int)) ∈ g then [] else [(x, (n : Int))] := by
  unfold colTo
  rw [List.range_succ, List.map_append, List.filter_append]
  congr 1
  by_cases h : (x, (n : Int)) ∈ g <;> simp [h]
theorem openTo_succ (g : List Cell) (h : Int) (n : Nat) : openTo g h (n + 1) = openTo g h n ++ colTo g (n : Int) h.toNat := by
  unfold openTo
  rw [List.range_succ, List.flatMap_append]
  simp
theorem colTo_length (g : List Cell) (x : Int) (n : Nat) : (colTo g x n).length ≤ n := by
  unfold colTo
  exact Nat.le_trans (List.length_filter_le _ _) (by simp)
theorem openTo_length (g : List Cell) (h : Int) (n : Nat) : (openTo g h n).length ≤ n * h.toNat := by
  induction n with
  | zero => simp [openTo]
  | succ n ih =>
    rw [openTo_succ, List.length_append, Nat.succ_mul]
    have := colTo_length g (n : Int) h.toNat
    omega

theorem nodup_rev {α : Type} {l : List α} (h : l.Nodup) : l.reverse.Nodup := List.pairwise_reverse.mpr (List.Pairwise.imp (fun h => Ne.symm h) h)
/-- how a Board's attributes stand -/
def bF (w h : Int) (d : Addr) : List (Str × V) := putF "missing" (.ref d) (putF "high" (.int h) (putF "wide" (.int w) []))
theorem n_wh : ¬ (("wide" : Str) = "high") := by decide +kernel
theorem n_wm : ¬ (("wide" : Str) = "missing") := by decide +kernel
theorem n_hm : ¬ (("high" : Str) = "missing") := by decide +kernel
theorem bF_wide (w h : Int) (d : Addr) : (bF w h d).lookup ("wide" : Str) = some (.int w) := by
  unfold bF
  rw [lookup_putF, if_neg n_wm, lookup_putF, if_neg n_wh, lookup_putF, if_pos rfl]
theorem bF_high (w h : Int) (d : Addr) : (bF w h d).lookup ("high" : Str) = some (.int h) := by
  unfold bF
  rw [lookup_putF, if_neg n_hm, lookup_putF, if_pos rfl]
theorem bF_missing (w h : Int) (d : Addr) : (bF w h d).lookup ("missing" : Str) = some (.ref d) := by
  unfold bF
  rw [lookup_putF, if_pos rfl]
theorem bF_no (w h : Int) (d : Addr) {m : Str} (h1 : ¬ m = "missing") (h2 : ¬ m = "high") (h3 : ¬ m = "wide") : (bF w h d).lookup m = none := by
  unfold bF
  rw [lookup_putF, if_neg h1, lookup_putF, if_neg h2, lookup_putF, if_neg h3]
  all_goals rfl
theorem bF_width (w h : Int) (d : Addr) : (bF w h d).lookup ("width" : Str) = none := bF_no w h d (by decide +kernel) (by decide +kernel) (by decide +kernel)
theorem bF_height (w h : Int) (d : Addr) : (bF w h d).lookup ("height" : Str) = none := bF_no w h d (by decide +kernel) (by decide +kernel) (by decide +kernel)
theorem bF_gaps (w h : Int) (d : Addr) : (bF w h d).lookup ("gaps" : Str) = none := bF_no w h d (by decide +kernel) (by decide +kernel) (by decide +kernel)
theorem bF_open (w h : Int) (d : Addr) : (bF w h d).lookup ("open_cells" : Str) = none := bF_no w h d (by decide +kernel) (by decide +kernel) (by decide +kernel)
/-- a Board stands at p -/
structure BoardAt (C : Addr) (H : Hp) (p : Addr) (w h : Int) (g : List Cell) : Prop where
  ob : ∃ dx d, H p = some (.ins C dx (bF w h d)) ∧ H d = some (.dT (g.map gE))
  sd : Sides w h
  nd : g.Nodup
  inb : InB w h g
theorem BoardAt.keep {C : Addr} {H H' : Hp} {p : Addr} {w h : Int} {g : List Cell} (b : BoardAt C H p w h g) (s : Same H H') : BoardAt C H' p w h g :=
  ⟨let ⟨dx, d, e1, e2⟩ := b.ob; ⟨dx, d, s _ _ e1, s _ _ e2⟩, b.sd, b.nd, b.inb⟩
theorem nodup_le {α : Type} [DecidableEq α] : ∀ (l m : List α), l.Nodup → (∀ x ∈ l, x ∈ m) → l.length ≤ m.length
  | [], _, _, _ => Nat.zero_le _
  | x :: l, m, hn, hs => by
    have hx : x ∈ m := hs x List.mem_cons_self
    have hn' := List.nodup_cons.mp hn
    have h := nodup_le l (m.erase x) hn'.2 fun y hy => by
      have hne : y ≠ x := fun e => hn'.1 (e ▸ hy)
      exact (List.mem_erase_of_ne hne).mpr (hs y (List.mem_cons_of_mem _ hy))
    have e := List.length_erase_of_mem hx
    have p : 0 < m.length := List.length_pos_of_mem hx
    simp only [List.length_cons]
    omega
def grid : List Cell := (List.range 16).flatMap fun x : Nat => (List.range 16).map fun y : Nat => (((x : Nat) : Int), ((y : Nat) : Int))
theorem grid_length : grid.length = 256 := by decide +kernel
theorem inb_length {w h : Int} {g : List Cell} (sd : Sides w h) (nd : g.Nodup) (ib : InB w h g) : g.length ≤ 256 := by
  rw [← grid_length]
  refine nodup_le g grid nd fun c hc => ?_
  obtain ⟨h1, h2, h3, h4⟩ := ib c hc
  obtain ⟨s1, s2, s3, s4⟩ := sd
  unfold grid
  rw [List.mem_flatMap]
  refine ⟨c.1.toNat, List.mem_range.mpr (by omega), List.mem_map.mpr ⟨c.2.toNat, List.mem_range.mpr (by omega), ?_⟩⟩
  have e1 : ((c.1.toNat : Nat) : Int) = c.1 := by omega
  have e2 : ((c.2.toNat : Nat) : Int) = c.2 := by omega
  show ((((c.1.toNat : Nat) : Int), ((c.2.toNat : Nat) : Int)) : Cell) = c
  rw [e1, e2]
/-- for c in cells: d[c] = True -/
theorem marks_seq {K : PySem.W.Frag} {ca d : Addr} {cv : List V} {cells : List Cell} {i j : Nat} {D : Ends} {σ : L2.St} {H0 H : Hp} (hq : SqA K H0 ca cv) (sm : Same H0 H) (hd0 : H0 d = none) (pc : Paired (CellV H0) cv cells) (hcl : cells.length ≤ 100000) (hd : H d = some (.dT [])) (hij : i ≠ j) (hσ : σ[j]? = some (some (.ref d))) (hi : i < σ.length)
    (k : ∀ (o : Option V) (H' : Hp) (g' : List Cell), But d H H' → H' d = some (.dT (g'.map gE)) → (∀ c, c ∈ g' ↔ c ∈ cells) → g'.length ≤ cells.length → D.nx (σ.set i o) H') :
    ((∃ xs, SqL K H ca xs) ∧ ForR (Itl K ca) (gName i) (sDPut (tVar j) (tVar i) (tC (V.bl true))) D σ H) ∨ ((∃ xs, SqT K H ca xs) ∧ ForR (Itt K ca) (gName i) (sDPut (tVar j) (tVar i) (tC (V.bl true))) D σ H) := by
  have hcv := Paired.length pc
  have turn : ∀ (n : Nat) (x : V) (σ' : L2.St) (H' : Hp), cv[n]? = some x → ((∃ o, σ' = σ.set i o) ∧ But d H H' ∧ ∃ g' : List Cell, H' d = some (.dT (g'.map gE)) ∧ (∀ c, c ∈ g' ↔ c ∈ cells.take n) ∧ g'.length ≤ n) →
      gName i x σ' H' fun σ2 H2 => sDPut (tVar j) (tVar i) (tC (V.bl true)) { D with nx := fun σ' H' => (∃ o, σ' = σ.set i o) ∧ But d H H' ∧ ∃ g' : List Cell, H' d = some (.dT (g'.map gE)) ∧ (∀ c, c ∈ g' ↔ c ∈ cells.take (n + 1)) ∧ g'.length ≤ n + 1, ct := fun σ' H' => (∃ o, σ' = σ.set i o) ∧ But d H H' ∧ ∃ g' : List Cell, H' d = some (.dT (g'.map gE)) ∧ (∀ c, c ∈ g' ↔ c ∈ cells.take (n + 1)) ∧ g'.length ≤ n + 1, bk := D.nx } σ2 H2 := by
    rintro n x σ' H' hn ⟨⟨o, rfl⟩, kb, g', hd2, hm, hl⟩
    obtain ⟨c, hc, t, rfl, ht⟩ := getE pc hn
    have hil := (List.getElem?_eq_some_iff.mp hc).1
    have etk : cells.take (n + 1) = cells.take n ++ [c] := by rw [List.take_add_one, hc]; rfl
    have htd : t ≠ d := ne_of_none ht hd0
    have ht := sm _ _ ht
    refine ⟨.ref d, by rw [List.set_set, List.getElem?_set_ne hij]; exact hσ, .ref t, by rw [List.set_set, List.getElem?_set_self hi], d, _, rfl, DPut.t (k := ck c) hd2 (kb _ _ htd ht) (Nat.lt_of_le_of_lt (show (g'.map gE).length ≤ 100000 by rw [List.length_map]; omega) (by decide)), ?_⟩
    refine ⟨⟨some (.ref t), by rw [List.set_set]⟩, kb.trans But.upd, if c ∈ g' then g' else g' ++ [c], by rw [upd_same, valV_gE_put], fun x => ?_, ?_⟩
    · rw [etk, List.mem_append, ← hm x]
      by_cases h1 : c ∈ g'
      · rw [if_pos h1]
        constructor
        · exact fun z => .inl z
        · rintro (z | z)
          · exact z
          · rw [show x = c by simpa using z]; exact h1
      · rw [if_neg h1, List.mem_append]
    · split
      · omega
      · rw [List.length_append, List.length_singleton]; omega
  have start : (∃ o, σ = σ.set i o) ∧ But d H H ∧ ∃ g' : List Cell, H d = some (.dT (g'.map gE)) ∧ (∀ c, c ∈ g' ↔ c ∈ cells.take 0) ∧ g'.length ≤ 0 :=
    ⟨⟨σ[i], (List.set_getElem_self hi).symm⟩, fun _ _ _ e => e, [], hd, by simp, Nat.le_refl _⟩
  have fin : ∀ σ' H', ((∃ o, σ' = σ.set i o) ∧ But d H H' ∧ ∃ g' : List Cell, H' d = some (.dT (g'.map gE)) ∧ (∀ c, c ∈ g' ↔ c ∈ cells.take cv.length) ∧ g'.length ≤ cv.length) → D.nx σ' H' := by
    rintro σ' H' ⟨⟨o, rfl⟩, kb, g', hd2, hm, hl⟩
    refine k o H' g' kb hd2 (fun c => ?_) (by omega)
    rw [hm c, List.take_of_length_le (by omega)]
  rcases hq with h | h
  · exact .inl ⟨⟨_, sm.seq h⟩, for_list (xs := cv) (fun n σ' H' => (∃ o, σ' = σ.set i o) ∧ But d H H' ∧ ∃ g' : List Cell, H' d = some (.dT (g'.map gE)) ∧ (∀ c, c ∈ g' ↔ c ∈ cells.take n) ∧ g'.length ≤ n) start (fun n σ' H' _ p => (But.same sm p.2.1 hd0).seq h) turn fin⟩
  · exact .inr ⟨⟨_, sameT sm h⟩, for_tup (xs := cv) (fun n σ' H' => (∃ o, σ' = σ.set i o) ∧ But d H H' ∧ ∃ g' : List Cell, H' d = some (.dT (g'.map gE)) ∧ (∀ c, c ∈ g' ↔ c ∈ cells.take n) ∧ g'.length ≤ n) start (fun n σ' H' _ p => sameT (But.same sm p.2.1 hd0) h) turn fin⟩
end CF

set_option Elab.async false
set_option linter.all false
set_option maxRecDepth 100000
set_option maxHeartbeats 4000000
/-! CFMath: sorted cells, the open cells of a board two ways. -/
namespace CF
open PySem PySem.Spec PyProof.Rows L2

def leC (a b : Cell) : Bool := decide (a.1 < b.1 ∨ (a.1 = b.1 ∧ a.2 ≤ b.2))
theorem leC_eq : PySem.W.dataLe false cD = leC := PySem.W.dataLe_ii (fun c : Cell => c.1) (fun c => c.2)
theorem leC_trans (a b c : Cell) (h1 : leC a b = true) (h2 : leC b c = true) : leC a c = true := by
  simp only [leC, decide_eq_true_eq] at *
  omega
theorem leC_total (a b : Cell) : (leC a b || leC b a) = true := by
  simp only [leC, Bool.or_eq_true, decide_eq_true_eq]
  omega
theorem leC_anti (a b : Cell) (h1 : leC a b = true) (h2 : leC b a = true) : a = b := by
  simp only [leC, decide_eq_true_eq] at *
  exact Prod.ext (by omega) (by omega)
abbrev sortC (g : List Cell) : List Cell := g.mergeSort (PySem.W.dataLe false cD)
theorem sortC_pairwise (g : List Cell) : (sortC g).Pairwise (fun a b => leC a b = true) := by
  unfold sortC
  rw [leC_eq]
  exact List.pairwise_mergeSort leC_trans leC_total g
theorem sortC_perm (g : List Cell) : (sortC g).Perm g := List.mergeSort_perm _ _
theorem sortC_of (g m : List Cell) (hp : m.Perm g) (hs : m.Pairwise (fun a b => leC a b = true)) : sortC g = m :=
  List.Perm.eq_of_pairwise (le := fun a b => leC a b = true) (fun a b _ _ => leC_anti a b) (sortC_pairwise g) hs ((sortC_perm g).trans hp.symm)
theorem sortC_congr {g m : List Cell} (h : g.Perm m) : sortC g = sortC m := sortC_of g _ ((sortC_perm m).trans h.symm) (sortC_pairwise m)
theorem mem_sortC {g : List Cell} {c : Cell} : c ∈ sortC g ↔ c ∈ g := (sortC_perm g).mem_iff
theorem sortC_nodup {g : List Cell} (h : g.Nodup) : (sortC g).Nodup := (sortC_perm g).symm.nodup h

/-- the law's way through the open cells -/
def lawTo (h : Int) (g : List Cell) (n : Nat) : List Cell := ((List.range n).map fun k : Nat => (((k : Int) / h, (k : Int) % h) : Cell)).filter fun c => decide (c ∉ g)
theorem lawTo_succ (h : Int) (g : List Cell) (n : Nat) : lawTo h g (n + 1) = lawTo h g n ++ if ((n : Int) / h, (n : Int) % h) ∈ g then [] else [((n : Int) / h, (n : Int) % h)] := by
  unfold lawTo
  rw [List.range_succ, List.map_append, List.filter_append]
  congr 1
  by_cases q : ((n : Int) / h, (n : Int) % h) ∈ g <;> simp [q]
theorem lawTo_length (h : Int) (g : List Cell) (n : Nat) : (lawTo h g n).length ≤ n := by
  unfold lawTo
  exact Nat.le_trans (List.length_filter_le _ _) (by simp)
theorem lawTo_row (h : Nat) (g : List Cell) (m : Nat) : ∀ j, j ≤ h → lawTo (h : Int) g (m * h + j) = lawTo (h : Int) g (m * h) ++ colTo g (m : Int) j
  | 0, _ => by simp [colTo]
  | j + 1, hj => by
    rw [← Nat.add_assoc, lawTo_succ, lawTo_row h g m j (by omega), colTo_succ, List.append_assoc]
    have hp : (0 : Int) < (h : Int) := by omega
    have e1 : ((m * h + j : Nat) : Int) / (h : Int) = (m : Int) := by
      rw [show ((m * h + j : Nat) : Int) = (j : Int) + (m : Int) * (h : Int) by rw [Int.natCast_add, Int.natCast_mul, Int.add_comm]]
      rw [Int.add_mul_ediv_right _ _ (by omega), Int.ediv_eq_zero_of_lt (by omega) (by omega), Int.zero_add]
    have e2 : ((m * h + j : Nat) : Int) % (h : Int) = (j : Int) := by
      rw [show ((m * h + j : Nat) : Int) = (j : Int) + (m : Int) * (h : Int) by rw [Int.natCast_add, Int.natCast_mul, Int.add_comm]]
      rw [Int.add_mul_emod_self_right, Int.emod_eq_of_lt (by omega) (by omega)]
    rw [e1, e2]
theorem lawTo_open (h : Nat) (g : List Cell) : ∀ m, lawTo (h : Int) g (m * h) = openTo g (h : Int) m
  | 0 => by simp [lawTo, openTo]
  | m + 1 => by
    rw [Nat.succ_mul, lawTo_row h g m h (Nat.le_refl _), openTo_succ, lawTo_open h g m]
    rfl
theorem colTo_congr {g g' : List Cell} (e : ∀ c, c ∈ g ↔ c ∈ g') (x : Int) (n : Nat) : colTo g x n = colTo g' x n := by
  unfold colTo
  congr 1
  funext c
  simp [e c]
theorem openC_congr {g g' : List Cell} (e : ∀ c, c ∈ g ↔ c ∈ g') (w h : Int) : openC w h g = openC w h g' := by
  unfold openC openTo
  congr 1
  funext k
  exact colTo_congr e _ _
theorem mem_colTo {g : List Cell} {x : Int} {n : Nat} {c : Cell} : c ∈ colTo g x n ↔ c.1 = x ∧ 0 ≤ c.2 ∧ c.2 < (n : Int) ∧ c ∉ g := by
  unfold colTo
  rw [List.mem_filter, List.mem_map]
  constructor
  · rintro ⟨⟨k, hk, rfl⟩, h⟩
    have := List.mem_range.mp hk
    refine ⟨rfl, by dsimp only; omega, by dsimp only; omega, by simpa using h⟩
  · rintro ⟨h1, h2, h3, h4⟩
    refine ⟨⟨c.2.toNat, List.mem_range.mpr (by omega), Prod.ext h1.symm (by dsimp only; omega)⟩, by simpa using h4⟩
theorem mem_openTo {g : List Cell} {h : Int} {n : Nat} {c : Cell} : c ∈ openTo g h n ↔ 0 ≤ c.1 ∧ c.1 < (n : Int) ∧ 0 ≤ c.2 ∧ c.2 < h ∧ c ∉ g := by
  unfold openTo
  rw [List.mem_flatMap]
  constructor
  · rintro ⟨k, hk, hc⟩
    have := List.mem_range.mp hk
    obtain ⟨h1, h2, h3, h4⟩ := mem_colTo.mp hc
    exact ⟨by omega, by omega, h2, by omega, h4⟩
  · rintro ⟨h1, h2, h3, h4, h5⟩
    exact ⟨c.1.toNat, List.mem_range.mpr (by omega), mem_colTo.mpr ⟨by omega, h3, by omega, h5⟩⟩
theorem mem_openC {g : List Cell} {w h : Int} {c : Cell} : c ∈ openC w h g ↔ 0 ≤ c.1 ∧ c.1 < w ∧ 0 ≤ c.2 ∧ c.2 < h ∧ c ∉ g := by
  unfold openC
  rw [mem_openTo]
  constructor
  · rintro ⟨h1, h2, h3⟩
    exact ⟨h1, by omega, h3⟩
  · rintro ⟨h1, h2, h3⟩
    exact ⟨h1, by omega, h3⟩
/-- strictly rising -/
def ltC (a b : Cell) : Prop := a.1 < b.1 ∨ (a.1 = b.1 ∧ a.2 < b.2)
theorem colTo_rising (g : List Cell) (x : Int) (n : Nat) : (colTo g x n).Pairwise ltC := by
  induction n with
  | zero => simp [colTo]
  | succ n ih =>
    rw [colTo_succ]
    split
    · rw [List.append_nil]; exact ih
    · refine List.pairwise_append.mpr ⟨ih, by simp, fun a ha b hb => ?_⟩
      have hb' : b = (x, (n : Int)) := by simpa using hb
      subst hb'
      obtain ⟨h1, h2, h3, _⟩ := mem_colTo.mp ha
      exact .inr ⟨h1, h3⟩
theorem openTo_rising (g : List Cell) (h : Int) (n : Nat) : (openTo g h n).Pairwise ltC := by
  induction n with
  | zero => simp [openTo]
  | succ n ih =>
    rw [openTo_succ]
    refine List.pairwise_append.mpr ⟨ih, colTo_rising _ _ _, fun a ha b hb => ?_⟩
    obtain ⟨h1, h2, _⟩ := mem_openTo.mp ha
    obtain ⟨h3, _⟩ := mem_colTo.mp hb
    exact .inl (by omega)
theorem openC_rising (w h : Int) (g : List Cell) : (openC w h g).Pairwise ltC := openTo_rising _ _ _
theorem ltC_le {a b : Cell} (h : ltC a b) : leC a b = true := by
  unfold ltC at h
  simp only [leC, decide_eq_true_eq]
  omega
theorem ltC_ne {a b : Cell} (h : ltC a b) : a ≠ b := by
  rintro rfl
  unfold ltC at h
  omega
theorem openC_nodup (w h : Int) (g : List Cell) : (openC w h g).Nodup := (openC_rising w h g).imp ltC_ne
theorem openC_sorted (w h : Int) (g : List Cell) : (openC w h g).Pairwise (fun a b => leC a b = true) := (openC_rising w h g).imp ltC_le
theorem openC_length {w h : Int} (sd : Sides w h) (g : List Cell) : (openC w h g).length ≤ 256 := by
  unfold openC
  refine Nat.le_trans (openTo_length g h w.toNat) ?_
  obtain ⟨s1, s2, s3, s4⟩ := sd
  exact Nat.le_trans (Nat.mul_le_mul (show w.toNat ≤ 16 by omega) (show h.toNat ≤ 16 by omega)) (by decide)
end CF

set_option Elab.async false
set_option linter.all false
set_option maxRecDepth 100000
set_option maxHeartbeats 4000000
/-! CFBoard: the class Board. -/
namespace CF
open PySem PySem.Spec PyProof.Rows L2
def top (i : Nat) : Stmt := PySem.Challenge.pw_cornerfill_k13_boards_read_or_refused.main.body.getD i (.Pass ⟨0, 0, 0, 0⟩)
/-- what the walk asks of the class -/
structure BTx (K : PySem.W.Frag) (mg : Str → Option Value) (C : Addr) : Prop where
  cl : Cls K C
  nW : NoAttr K C "wide"
  nH : NoAttr K C "high"
  nM : NoAttr K C "missing"
  gMOST : ∃ t, mg "MOST" = some (.int 16 t)
theorem btx_mk {K : PySem.W.Frag} {h : Heap} {mg : Str → Option Value} {C : Addr} {t : Tok} (X : K.In h) (G : h.Ns mainGlobals mg) (pg : PySem.W.plainGet K C Str.empty = true) (hd : PySem.W.hasDictIn K C = true) (po : PySem.W.plainOver K C = true)
    (sa : PySem.W.findIn K (.ref C) "__setattr__" = some (some (.builtin "object.__setattr__"))) (nW : PySem.W.findIn K (.ref C) "wide" = some none) (nH : PySem.W.findIn K (.ref C) "high" = some none) (nM : PySem.W.findIn K (.ref C) "missing" = some none)
    (aM : PySem.W.nsIn K mainGlobals "MOST" = some (some (.int 16 t))) : BTx K mg C := ⟨⟨pg, hd, po, sa⟩, nW, nH, nM, ⟨t, PySem.W.mg_of X G aM⟩⟩
def spInit (C : Addr) : Sp := fun vs H Q _ => ∃ (p dx ga : Addr) (w h : Int) (g : List Cell), vs = [.ref p, .int w, .int h, .ref ga] ∧ H p = some (.ins C dx []) ∧ LsA CellV H ga g ∧ Sides w h ∧ g.Nodup ∧ InB w h g ∧
  ∀ H' : Hp, BoardAt C H' p w h g → But p H H' → Q .non H'
def spWidth (C : Addr) : Sp := fun vs H Q _ => ∃ (p : Addr) (w h : Int) (g : List Cell), vs = [.ref p] ∧ BoardAt C H p w h g ∧ Q (.int w) H
def spHeight (C : Addr) : Sp := fun vs H Q _ => ∃ (p : Addr) (w h : Int) (g : List Cell), vs = [.ref p] ∧ BoardAt C H p w h g ∧ Q (.int h) H
/-- a new list at q -/
def NewL {α : Type} (R : Hp → V → α → Prop) (H H' : Hp) (q : Addr) (l : List α) : Prop := Same H H' ∧ H q = none ∧ LsA R H' q l
def spGaps (C : Addr) : Sp := fun vs H Q _ => ∃ (p : Addr) (w h : Int) (g : List Cell), vs = [.ref p] ∧ BoardAt C H p w h g ∧ ∀ H' q, NewL CellV H H' q (sortC g) → Q (.ref q) H'
def spOpen (C : Addr) : Sp := fun vs H Q _ => ∃ (p : Addr) (w h : Int) (g : List Cell), vs = [.ref p] ∧ BoardAt C H p w h g ∧ ∀ H' q, NewL CellV H H' q (openC w h g) → Q (.ref q) H'
section
variable {P : Program} {Wd : World} {K : PySem.W.Frag} {mg : Str → Option Value} {base : Heap} {C : Addr}
abbrev s_B_init : Stmt := inClass (top 10) 0
abbrev n_B_init : List Str := ["self", "width", "height", "gaps", "x", "y"]
abbrev p_B_init : List Str := ["self", "width", "height", "gaps"]
theorem sc_B_init : FnScope n_B_init p_B_init (defScope s_B_init) := ⟨rfl, rfl, rfl, by decide +kernel, rfl, by decide +kernel, by decide +kernel⟩

abbrev s_B_width : Stmt := inClass (top 10) 1
abbrev n_B_width : List Str := ["self"]
abbrev p_B_width : List Str := ["self"]
theorem sc_B_width : FnScope n_B_width p_B_width (defScope s_B_width) := ⟨rfl, rfl, rfl, by decide +kernel, rfl, by decide +kernel, by decide +kernel⟩

abbrev s_B_height : Stmt := inClass (top 10) 2
abbrev n_B_height : List Str := ["self"]
abbrev p_B_height : List Str := ["self"]
theorem sc_B_height : FnScope n_B_height p_B_height (defScope s_B_height) := ⟨rfl, rfl, rfl, by decide +kernel, rfl, by decide +kernel, by decide +kernel⟩

abbrev s_B_gaps : Stmt := inClass (top 10) 3
abbrev n_B_gaps : List Str := ["self"]
abbrev p_B_gaps : List Str := ["self"]
theorem sc_B_gaps : FnScope n_B_gaps p_B_gaps (defScope s_B_gaps) := ⟨rfl, rfl, rfl, by decide +kernel, rfl, by decide +kernel, by decide +kernel⟩

abbrev s_B_open_cells : Stmt := inClass (top 10) 4
abbrev n_B_open_cells : List Str := ["self", "found", "x", "y"]
abbrev p_B_open_cells : List Str := ["self"]
theorem sc_B_open_cells : FnScope n_B_open_cells p_B_open_cells (defScope s_B_open_cells) := ⟨rfl, rfl, rfl, by decide +kernel, rfl, by decide +kernel, by decide +kernel⟩

theorem ok_init (T : BTx K mg C) (f : Addr) (fd : FuncData) (F : Fun K "__init__" "Board.__init__" s_B_init f fd) : FnOk P Wd K mg base CX0 1 f fd p_B_init (spInit C) := by
  refine F.ok sc_B_init (fun vs H Q E h => ?_) (fun cdv A outer s H vs Q E hr h => ?_)
  · obtain ⟨p, dx, ga, w, h, g, rfl, _⟩ := h
    rfl
  · obtain ⟨p, dx, ga, w, h, g, rfl, hp, hg, sd, nd, ib, k⟩ := h
    have hu := hu_of hr
    obtain ⟨s1, s2, s3, s4⟩ := sd
    refine ⟨_,
      (pss_cons (ps_if (PW.pt (pw_or (pt_cmpR op_lt (L2.pv 1) pe_int (nomark _)) (pw_or (pt_cmpR op_gt (L2.pv 1) (pe_gint T.gMOST) (nomark _)) (pw_or (pt_cmpR op_lt (L2.pv 2) pe_int (nomark _)) (pw_or1 (pt_cmpR op_gt (L2.pv 2) (pe_gint T.gMOST) (nomark _)))))))
        (pss_one ps_never)
        pss_nil)
      (pss_cons (ps_fld (L2.pv 0) (L2.pv 1) (by rfl))
      (pss_cons (ps_fld (L2.pv 0) (L2.pv 2) (by rfl))
      (pss_cons (ps_fld (L2.pv 0) pe_dnewT (by rfl))
      (pss_one (ps_for PassesOwn.never (by rfl) (pi_listK K (by rfl) (L2.pv 3)) (pg_tupK K 2 (by rfl) (by rfl) (pgs_cons (pg_name (i := 4) sc_B_init.nd rfl (by first | exact Or.inl rfl | exact Or.inr rfl)) (pgs_cons (pg_name (i := 5) sc_B_init.nd rfl (by first | exact Or.inl rfl | exact Or.inr rfl)) pgs_nil)) (by rfl) (by rfl))
        (pss_cons (ps_if (PW.pt (pw_or (pt_cmpR op_lt (L2.pv 4) pe_int (nomark _)) (pw_or (pt_cmpR op_ge (L2.pv 4) (L2.pv 1) (nomark _)) (pw_or (pt_cmpR op_lt (L2.pv 5) pe_int (nomark _)) (pw_or (pt_cmpR op_ge (L2.pv 5) (L2.pv 2) (nomark _)) (pw_or1 (pt_cmp (pc_din (by exact hu) (pe_tup (pa_cons (L2.pv 4) (pa_cons (L2.pv 5) pa_nil))) (pe_fldK K (by rfl) (L2.pv 0) (by rfl))))))))))
           (pss_one ps_never)
           pss_nil)
         (pss_one (ps_dput (by exact hu) (pe_fldK K (by rfl) (L2.pv 0) (by rfl)) (pe_tup (pa_cons (L2.pv 4) (pa_cons (L2.pv 5) pa_nil))) pe_bl rfl))))))))), ?_⟩
    refine ⟨_, rfl, _, _, rfl, rfl, _, rfl, ?_⟩
    refine iteN (by omega) ?_
    refine ⟨_, rfl, _, _, rfl, rfl, _, rfl, ?_⟩
    refine iteN (by omega) ?_
    refine ⟨_, rfl, _, _, rfl, rfl, _, rfl, ?_⟩
    refine iteN (by omega) ?_
    refine ⟨_, rfl, _, _, rfl, rfl, _, rfl, ?_⟩
    refine iteN (by omega) ?_
    have l1 := putF_len "wide" (.int w) []
    have l2 := putF_len "high" (.int h) (putF "wide" (.int w) [])
    have l3 := putF_len "missing" .non (putF "high" (.int h) (putF "wide" (.int w) []))
    have z0 : ([] : List (Str × V)).length = 0 := rfl
    refine ⟨_, rfl, _, rfl, p, C, dx, [], rfl, hp, T.cl, T.nW, (by omega), ?_⟩
    refine ⟨_, rfl, _, rfl, p, C, dx, _, rfl, upd_same, T.cl, T.nH, (by omega), ?_⟩
    intro d hd
    have npd : p ≠ d := ne_of_none (H := upd (upd H p _) p _) upd_same hd
    have hd0 : H d = none := by rw [upd_ne npd.symm, upd_ne npd.symm] at hd; exact hd
    refine ⟨_, rfl, p, C, dx, _, rfl, (by rw [upd_ne npd]; exact upd_same), T.cl, T.nM, (by omega), ?_⟩
    obtain ⟨vs, hga, pg⟩ := hg
    have npg : ga ≠ p := ne_of hga hp (by intro z; cases z)
    have ndg : ga ≠ d := ne_of_none hga hd0
    refine ⟨_, rfl, ga, rfl, ⟨vs, SqL.of (by rw [upd_ne npg, upd_ne ndg, upd_ne npg, upd_ne npg]; exact hga)⟩,
      for_list (K := K) (a := ga) (xs := vs) (fun i σ H2 => ∃ v4 v5 : Option V, σ = [some (.ref p), some (.int w), some (.int h), some (.ref ga), v4, v5] ∧ H2 p = some (.ins C dx (bF w h d)) ∧ H2 d = some (.dT ((g.take i).map gE)) ∧ But p H H2) ?_ ?_ ?_ ?_⟩
    · refine ⟨none, none, rfl, upd_same, by rw [upd_ne npd.symm, upd_same]; rfl, fun b o hb e => ?_⟩
      rw [upd_ne hb, upd_ne (ne_of_none e hd0), upd_ne hb, upd_ne hb]
      exact e
    · rintro i σ H2 _ ⟨v4, v5, _, _, _, kb⟩
      exact SqL.of (kb _ _ npg hga)
    · rintro i y σ H2 hi ⟨v4, v5, rfl, hp2, hd2, kb⟩
      obtain ⟨c, hc, t, rfl, ht⟩ := getE pg hi
      have npt : t ≠ p := ne_of ht hp (by intro z; cases z)
      have ht2 := kb _ _ npt ht
      have hcm : c ∈ g := List.mem_of_getElem? hc
      obtain ⟨b1, b2, b3, b4⟩ := ib c hcm
      have hlt := (List.getElem?_eq_some_iff.mp hc).1
      have etk : g.take (i + 1) = g.take i ++ [c] := by rw [List.take_add_one, hc]; rfl
      have hnot : c ∉ g.take i := by
        have h1 : (g.take (i + 1)).Nodup := nd.sublist (List.take_sublist _ _)
        rw [etk] at h1
        exact fun hm => (List.nodup_append.mp h1).2.2 c hm c (by simp) rfl
      refine ⟨t, _, rfl, SqT.of ht2, rfl, _, _, rfl, _, _, rfl, rfl, ?_⟩
      refine ⟨_, rfl, _, _, rfl, rfl, _, rfl, ?_⟩
      refine iteN (by omega) ?_
      refine ⟨_, rfl, _, rfl, _, _, rfl, rfl, _, rfl, ?_⟩
      refine iteN (by omega) ?_
      refine ⟨_, rfl, _, _, rfl, rfl, _, rfl, ?_⟩
      refine iteN (by omega) ?_
      refine ⟨_, rfl, _, rfl, _, _, rfl, rfl, _, rfl, ?_⟩
      refine iteN (by omega) ?_
      refine ⟨_, rfl, _, rfl, (by show 2 ≤ sizeLine; decide), fun q hq => ?_⟩
      have npq : p ≠ q := ne_of_none hp2 hq
      have ndq : d ≠ q := ne_of_none hd2 hq
      refine ⟨_, rfl, p, C, dx, _, _, rfl, (by rw [upd_ne npq]; exact hp2), T.cl, T.nM, bF_missing w h d, d, _, rfl, DGet.t (k := ck c) (by rw [upd_ne ndq]; exact hd2) upd_same, _, rfl, ?_⟩
      rw [valV_gE_some]
      refine iteN hnot ?_
      refine ⟨_, rfl, p, C, dx, _, _, rfl, (by rw [upd_ne npq]; exact hp2), T.cl, T.nM, bF_missing w h d, _, rfl, _, rfl, (by show 2 ≤ sizeLine; decide), fun q2 hq2 => ?_⟩
      have npq2 : p ≠ q2 := ne_of_none (H := upd H2 q _) (by rw [upd_ne npq]; exact hp2) hq2
      have ndq2 : d ≠ q2 := ne_of_none (H := upd H2 q _) (by rw [upd_ne ndq]; exact hd2) hq2
      have hlen : ((g.take i).map gE).length ≤ 256 := by
        have := inb_length ⟨s1, s2, s3, s4⟩ nd ib
        rw [List.length_map, List.length_take]
        omega
      refine ⟨d, _, rfl, DPut.t (k := ck c) (by rw [upd_ne ndq2, upd_ne ndq]; exact hd2) upd_same (Nat.lt_of_le_of_lt hlen (by decide)), ?_⟩
      refine ⟨_, _, rfl, (by rw [upd_ne npd, upd_ne npq2, upd_ne npq]; exact hp2), (by rw [upd_same, putK_gE hnot, etk]), fun b o hb e => ?_⟩
      have h1 := kb b o hb e
      have hbd : b ≠ d := ne_of_none e hd0
      have h2 : upd H2 q (.tup [.int c.1, .int c.2]) b = some o := by rw [upd_ne (ne_of_none h1 hq)]; exact h1
      rw [upd_ne hbd, upd_ne (ne_of_none h2 hq2)]
      exact h2
    · rintro σ H2 ⟨v4, v5, rfl, hp2, hd2, kb⟩
      have e : g.take vs.length = g := List.take_of_length_le (by rw [Paired.length pg]; exact Nat.le_refl _)
      rw [e] at hd2
      exact k H2 ⟨⟨dx, d, hp2, hd2⟩, ⟨s1, s2, s3, s4⟩, nd, ib⟩ kb
theorem ok_width (T : BTx K mg C) (f : Addr) (fd : FuncData) (F : Fun K "width" "Board.width" s_B_width f fd) : FnOk P Wd K mg base CX0 1 f fd p_B_width (spWidth C) := by
  refine F.ok sc_B_width (fun vs H Q E h => ?_) (fun cdv A outer s H vs Q E hr h => ?_)
  · obtain ⟨p, w, h, g, rfl, _⟩ := h
    rfl
  · obtain ⟨p, w, h, g, rfl, b, k⟩ := h
    obtain ⟨dx, d, h1, h2⟩ := b.ob
    refine ⟨_,
      (pss_one (ps_ret (pe_fldK K (by rfl) (L2.pv 0) (by rfl)))), ?_⟩
    exact ⟨_, rfl, p, C, dx, _, _, rfl, h1, T.cl, T.nW, bF_wide w h d, k⟩
theorem ok_height (T : BTx K mg C) (f : Addr) (fd : FuncData) (F : Fun K "height" "Board.height" s_B_height f fd) : FnOk P Wd K mg base CX0 1 f fd p_B_height (spHeight C) := by
  refine F.ok sc_B_height (fun vs H Q E h => ?_) (fun cdv A outer s H vs Q E hr h => ?_)
  · obtain ⟨p, w, h, g, rfl, _⟩ := h
    rfl
  · obtain ⟨p, w, h, g, rfl, b, k⟩ := h
    obtain ⟨dx, d, h1, h2⟩ := b.ob
    refine ⟨_,
      (pss_one (ps_ret (pe_fldK K (by rfl) (L2.pv 0) (by rfl)))), ?_⟩
    exact ⟨_, rfl, p, C, dx, _, _, rfl, h1, T.cl, T.nH, bF_high w h d, k⟩
theorem keys_cells {H : Hp} : ∀ {g : List Cell} {bs : List Addr}, IsKeys H (g.map gE) bs → Paired (CellV H) (bs.map V.ref) g := by
  intro g
  induction g with
  | nil =>
    intro bs h
    cases h
    exact .nil
  | cons c g ih =>
    intro bs h
    cases h with
    | cons h1 h2 => exact .cons ⟨_, rfl, h1⟩ (ih h2)
theorem ok_gaps (T : BTx K mg C) (B : Bl mg) (f : Addr) (fd : FuncData) (F : Fun K "gaps" "Board.gaps" s_B_gaps f fd) : FnOk P Wd K mg base CX0 1 f fd p_B_gaps (spGaps C) := by
  refine F.ok sc_B_gaps (fun vs H Q E h => ?_) (fun cdv A outer s H vs Q E hr h => ?_)
  · obtain ⟨p, w, h, g, rfl, _⟩ := h
    rfl
  · obtain ⟨p, w, h, g, rfl, b, k⟩ := h
    obtain ⟨dx, d, h1, h2⟩ := b.ob
    refine ⟨_,
      (pss_one (ps_ret (pe_callB (cr_sortK K rep_cell ge_cell se_cell (by decide) (by rfl) (by exact hr.units)) (by rfl) B.sorted bt_sorted (pa_cons (pe_callTy (call_list_dT (by rfl)) (by rfl) B.list bt_list (pa_cons (pe_fldK K (by rfl) (L2.pv 0) (by rfl)) pa_nil)) pa_nil)))), ?_⟩
    refine ⟨_, rfl, p, C, dx, _, _, rfl, h1, T.cl, T.nM, bF_missing w h d, d, _, rfl, .inl h2, fun q bs hq hb => ?_⟩
    have hb' := keys_cells hb
    have t1 : TP H (upd H q (.lst (bs.map V.ref))) := TP.new hq
    refine ⟨q, _, g, rfl, SqL.of upd_same, pair_mono rep_cell t1 hb', fun ys r hr2 hy => ?_⟩
    have s1 : Same H (upd H q (.lst (bs.map V.ref))) := sameNew hq
    refine k _ _ ⟨s1.trans (sameNew hr2), s1.free hr2, ys, upd_same, pair_mono rep_cell (TP.new hr2) hy⟩

theorem ok_open (T : BTx K mg C) (B : Bl mg) (f : Addr) (fd : FuncData) (F : Fun K "open_cells" "Board.open_cells" s_B_open_cells f fd) : FnOk P Wd K mg base CX0 1 f fd p_B_open_cells (spOpen C) := by
  refine F.ok sc_B_open_cells (fun vs H Q E h => ?_) (fun cdv A outer s H vs Q E hr h => ?_)
  · obtain ⟨p, w, h, g, rfl, _⟩ := h
    rfl
  · obtain ⟨p, w, h, g, rfl, b, k⟩ := h
    obtain ⟨dx, d, h1, h2⟩ := b.ob
    obtain ⟨s1, s2, s3, s4⟩ := b.sd
    have hu := hu_of hr
    refine ⟨_,
      (pss_cons (ps_set (i := 1) sc_B_open_cells.nd rfl (by first | exact Or.inl rfl | exact Or.inr rfl) (pe_lst pa_nil))
      (pss_cons (ps_for PassesOwn.never (by rfl) (pi_range1 (by rfl) B.range (pa_cons (pe_fldK K (by rfl) (L2.pv 0) (by rfl)) pa_nil)) (pg_name (i := 2) sc_B_open_cells.nd rfl (by first | exact Or.inl rfl | exact Or.inr rfl))
        (pss_one (ps_expr (pe_bmK K (by rfl) PySem.F.plainAttrs_list PySem.F.slot_list_extend PySem.F.type_list_extend mt_extend (L2.pv 1) (pa_cons (pe_lc (own := [("y", 3)]) (by rfl) sc_B_open_cells.nd  (pi_range1 (by rfl) B.range (pa_cons (pe_fldK K (by rfl) (L2.pv 0) (by rfl)) pa_nil)) (blkOk_by (own := [("y", 3)]) (N := n_B_open_cells) (sc := defScope s_B_open_cells) (by decide +kernel)) (fun _ _ _ _ _ => (pg_name (i := 3) sc_B_open_cells.nd rfl (by first | exact Or.inl rfl | exact Or.inr rfl))) (fun _ _ _ _ _ => pts_one (by exact (pt_cmp (pc_dnotin (by exact hu) (pe_tup (pa_cons (L2.pv 2) (pa_cons (L2.pv 3) pa_nil))) (pe_fldK K (by rfl) (L2.pv 0) (by rfl)))))) (fun _ _ _ _ _ => by exact (pe_tup (pa_cons (L2.pv 2) (pa_cons (L2.pv 3) pa_nil))))) pa_nil)))))
      (pss_one (ps_ret (L2.pv 1))))), ?_⟩
    refine ⟨(by show 0 ≤ sizeLine; decide), fun l hl => ?_⟩
    have npl : p ≠ l := ne_of_none h1 hl
    have ndl : d ≠ l := ne_of_none h2 hl
    refine ⟨_, rfl, p, C, dx, _, _, rfl, (by rw [upd_ne npl]; exact h1), T.cl, T.nW, bF_wide w h d, w, rfl, by omega, by omega,
      for_range (lo := 0) (n := w.toNat) (fun i σ H2 => ∃ v2 : Option V, σ = [some (.ref p), some (.ref l), v2, none] ∧ Same H H2 ∧ LsA CellV H2 l (openTo g h i)) ?_ ?_ ?_⟩
    · exact ⟨none, rfl, sameNew hl, [], upd_same, .nil⟩
    · rintro i σ H2 hi ⟨v2, rfl, sm, vs, hl2, pv2⟩
      rw [Int.zero_add]
      refine ⟨_, rfl, .inl ⟨rfl, _, SqL.of hl2⟩, _, rfl, p, C, dx, _, _, rfl, sm _ _ h1, T.cl, T.nH, bF_high w h d, h, rfl, by omega, by omega, fun D hD => ?_⟩
      have nlD : l ≠ D := ne_of_none hl2 hD
      refine lc_range (lo := 0) (n := h.toNat) (fun j H3 => Same H H3 ∧ TP H2 H3 ∧ H3 l = some (.lst vs) ∧ LsA CellV H3 D (colTo g (i : Int) j)) ?_ ?_ ?_
      · exact ⟨sm.trans (sameNew hD), TP.new hD, by rw [upd_ne nlD]; exact hl2, [], upd_same, .nil⟩
      · rintro j H3 hj ⟨sm3, t3, hl3, acc, hD3, pa⟩
        rw [Int.zero_add]
        refine ⟨rfl, _, rfl, _, rfl, (by show 2 ≤ sizeLine; decide), fun q hq => ?_⟩
        have s4 : Same H3 (upd H3 q (.tup [.int (i : Int), .int (j : Int)])) := sameNew hq
        refine ⟨_, rfl, p, C, dx, _, _, rfl, s4 _ _ (sm3 _ _ h1), T.cl, T.nM, bF_missing w h d, d, _, rfl, DGet.t (k := ck ((i : Int), (j : Int))) (s4 _ _ (sm3 _ _ h2)) upd_same, _, rfl, ?_⟩
        rw [valV_gE_some]
        have hlen := colTo_length g (i : Int) j
        have haccl := Paired.length pa
        have hcs := colTo_succ g (i : Int) j
        refine iteB (fun e => ?_) (fun e => ?_)
        · have hn : ((i : Int), (j : Int)) ∉ g := by simpa using e
          rw [if_neg hn] at hcs
          refine ⟨_, rfl, _, rfl, (by show 2 ≤ sizeLine; decide), fun q2 hq2 => ?_⟩
          have s5 := s4.trans (sameNew (o := .tup [.int (i : Int), .int (j : Int)]) hq2)
          have hD5 := s5 _ _ hD3
          refine ⟨acc, hD5, Nat.lt_of_le_of_lt (show acc.length ≤ 16 by omega) (by decide), sameMut (sm3.trans s5) (sm.free hD), (t3.trans (TP.of s5)).trans (TP.lst hD5), (by rw [upd_ne nlD]; exact s5 _ _ hl3), ?_⟩
          rw [hcs]
          exact push_ls rep_cell hD5 (pair_mono rep_cell (TP.of s5) pa) ⟨q2, rfl, upd_same⟩
        · have hm : ((i : Int), (j : Int)) ∈ g := by simpa using e
          rw [if_pos hm, List.append_nil] at hcs
          refine ⟨sm3.trans s4, t3.trans (TP.of s4), s4 _ _ hl3, acc, s4 _ _ hD3, ?_⟩
          rw [hcs]
          exact pair_mono rep_cell (TP.of s4) pa
      · rintro H3 ⟨sm3, t3, hl3, acc, hD3, pa⟩
        have e1 := openTo_length g h i
        have e2 := colTo_length g (i : Int) h.toNat
        have e3 := Paired.length pa
        have e4 := Paired.length pv2
        have e5 : i * h.toNat ≤ 16 * 16 := Nat.mul_le_mul (by omega) (by omega)
        refine ⟨l, D, vs, acc, rfl, rfl, hl3, hD3, Nat.le_trans (show vs.length + acc.length ≤ 1000 by omega) (by decide), ?_⟩
        refine ⟨_, rfl, sameMut sm3 hl, ?_⟩
        rw [openTo_succ]
        exact ext_ls rep_cell hl3 (pair_mono rep_cell t3 pv2) pa
    · rintro σ H2 ⟨v2, rfl, sm, ls⟩
      exact ⟨_, rfl, k _ _ ⟨sm, hl, ls⟩⟩

end
end CF

set_option Elab.async false
set_option linter.all false
set_option maxRecDepth 100000
set_option maxHeartbeats 4000000
set_option hygiene false
/-! CFHelp: what the laws share. -/
namespace CF
open PySem PySem.Spec PyProof.Rows L2
local macro_rules | `(tactic| walk_at "rd") => `(tactic| repeat (first | refine ⟨_, rfl, ?_⟩ | refine ⟨_, _, rfl, rfl, ?_⟩ | refine ⟨⟨by decide, by decide⟩, ?_⟩ | refine ⟨by show (0 : Int) < _; decide, ?_⟩))
theorem made_same {H H' : Hp} {x dx C : Addr} (nx : H x = none) (nd : H dx = none) (k : But x (upd (upd H dx (.own x)) x (.ins C dx [])) H') : Same H H' := Same.made nx nd fun b o e h => k b o h e
def spCellAt (K : PySem.W.Frag) : Sp := fun vs H Q _ => ∃ (a : Addr) (ns : List Int) (k : Int), vs = [.ref a, .int k] ∧ SqL K H a (ns.map V.int) ∧ 0 ≤ k ∧ ∀ z : Int, Q (.int z) H
def spWhole : Sp := fun vs H Q _ => ∃ i : Int, vs = [.int i] ∧ Q (.bl true) H
def spGapsBy (K : PySem.W.Frag) : Sp := fun vs H Q _ => ∃ (a : Addr) (ns : List Int) (st w h way : Int), vs = [.ref a, .int st, .int w, .int h, .int way] ∧ SqL K H a (ns.map V.int) ∧ 0 ≤ st ∧ 0 ≤ w ∧ w ≤ 16 ∧ 0 ≤ h ∧ h ≤ 16 ∧
  ∀ H' q g, NewL CellV H H' q g → g.Nodup → InB w h g → Q (.ref q) H'
/-- the gaps made so far: i rows, j places of the next -/
structure GI (w : Int) (i j : Nat) (g : List Cell) : Prop where
  nd : g.Nodup
  ib : ∀ c ∈ g, 0 ≤ c.1 ∧ c.1 < w ∧ 0 ≤ c.2 ∧ (c.2 < (i : Int) ∨ (c.2 = (i : Int) ∧ c.1 < (j : Int)))
  len : g.length ≤ i * 16 + j
theorem GI.step {w : Int} {i j : Nat} {g : List Cell} (h : GI w i j g) : GI w i (j + 1) g := ⟨h.nd, fun c hc => by have := h.ib c hc; omega, by have := h.len; omega⟩
theorem GI.add {w : Int} {i j : Nat} {g : List Cell} (h : GI w i j g) (hj : (j : Int) < w) : GI w i (j + 1) (g ++ [((j : Int), (i : Int))]) := by
  refine ⟨List.nodup_append.mpr ⟨h.nd, by simp, fun a ha b hb => ?_⟩, fun c hc => ?_, by have := h.len; simp only [List.length_append, List.length_cons, List.length_nil]; omega⟩
  · have hb' : b = ((j : Int), (i : Int)) := by simpa using hb
    subst hb'
    rintro rfl
    have := h.ib _ ha
    dsimp only at this
    omega
  · rcases List.mem_append.mp hc with hc | hc
    · have := h.ib c hc
      omega
    · have hc' : c = ((j : Int), (i : Int)) := by simpa using hc
      subst hc'
      dsimp only
      omega
theorem GI.row {w : Int} {i : Nat} {g : List Cell} (h : GI w i w.toNat g) (h0 : 0 ≤ w) (h1 : w ≤ 16) : GI w (i + 1) 0 g := ⟨h.nd, fun c hc => by have := h.ib c hc; omega, by have := h.len; omega⟩
section
variable {P : Program} {Wd : World} {K : PySem.W.Frag} {mg : Str → Option Value} {base : Heap} {C : Addr}

abbrev s_L_cell_at : Stmt := top 14
abbrev n_L_cell_at : List Str := ["script", "k"]
abbrev p_L_cell_at : List Str := ["script", "k"]
theorem sc_L_cell_at : FnScope n_L_cell_at p_L_cell_at (defScope s_L_cell_at) := ⟨rfl, rfl, rfl, by decide +kernel, rfl, by decide +kernel, by decide +kernel⟩

theorem ok_cell_at (B : Bl mg) (f : Addr) (fd : FuncData) (F : Fun K "_law_cell_at" "_law_cell_at" s_L_cell_at f fd) : FnOk P Wd K mg base CX0 1 f fd p_L_cell_at (spCellAt K) := by
  refine F.ok sc_L_cell_at (fun vs H Q E h => ?_) (fun cdv A outer s H vs Q E hr h => ?_)
  · obtain ⟨a, ns, k, rfl, _⟩ := h
    rfl
  · obtain ⟨a, ns, k, rfl, hs, h0, q⟩ := h
    refine ⟨_,
      (pss_cons (ps_if (pt_cmpR op_lt (L2.pv 1) (pe_callB (cr_len K (by rfl)) (by rfl) B.len bt_len (pa_cons (L2.pv 0) pa_nil)) (nomark _))
        (pss_one (ps_ret (pe_ixLK K (by rfl) (L2.pv 0) (L2.pv 1) (fun _ _ => rfl))))
        pss_nil)
      (pss_one (ps_ret pe_int))), ?_⟩
    refine ⟨_, rfl, _, rfl, a, _, rfl, .inl hs, _, _, rfl, rfl, _, rfl, ?_⟩
    refine iteD (fun hlt => ?_) (fun _ => ?_)
    · obtain ⟨j, rfl⟩ : ∃ j : Nat, k = (j : Int) := ⟨k.toNat, by omega⟩
      have hj : j < ns.length := by rw [List.length_map] at hlt; omega
      exact ⟨_, rfl, _, rfl, a, _, _, _, rfl, rfl, hs, atI_nat (j := j) (v := .int ns[j]) (by rw [List.getElem?_map, List.getElem?_eq_getElem hj]; rfl), q _⟩
    · exact q 0

abbrev s_L_whole : Stmt := top 15
abbrev n_L_whole : List Str := ["found"]
abbrev p_L_whole : List Str := ["found"]
theorem sc_L_whole : FnScope n_L_whole p_L_whole (defScope s_L_whole) := ⟨rfl, rfl, rfl, by decide +kernel, rfl, by decide +kernel, by decide +kernel⟩

theorem ok_whole (B : Bl mg) (f : Addr) (fd : FuncData) (F : Fun K "_law_whole" "_law_whole" s_L_whole f fd) : FnOk P Wd K mg base CX0 1 f fd p_L_whole spWhole := by
  refine F.ok sc_L_whole (fun vs H Q E h => ?_) (fun cdv A outer s H vs Q E hr h => ?_)
  · obtain ⟨a, rfl, _⟩ := h
    rfl
  · obtain ⟨i, rfl, q⟩ := h
    refine ⟨_,
      (pss_one (ps_ret (pe_and (pe_callB (cr_isi K (by rfl)) (by rfl) B.isinstance bt_isinstance (pa_cons (L2.pv 0) (pa_cons (pe_bltn (v := .ty "int") (by rfl) B.int bt_int rfl) pa_nil))) (pe_one (pe_not (pe_callB (cr_isi K (by rfl)) (by rfl) B.isinstance bt_isinstance (pa_cons (L2.pv 0) (pa_cons (pe_bltn (v := .ty "bool") (by rfl) B.bool bt_bool rfl) pa_nil)))))))), ?_⟩
    refine ⟨_, rfl, _, _, _, _, true, rfl, .ty _, .base (.int _), kit_ty (by decide +kernel), _, rfl, iteT ?_⟩
    exact ⟨_, rfl, _, _, _, _, false, rfl, .ty _, .base (.int _), kit_ty (by decide +kernel), _, rfl, q⟩

abbrev s_L_gaps_by : Stmt := top 16
abbrev n_L_gaps_by : List Str := ["script", "start", "width", "height", "way", "gaps", "y", "digits", "x"]
abbrev p_L_gaps_by : List Str := ["script", "start", "width", "height", "way"]
theorem sc_L_gaps_by : FnScope n_L_gaps_by p_L_gaps_by (defScope s_L_gaps_by) := ⟨rfl, rfl, rfl, by decide +kernel, rfl, by decide +kernel, by decide +kernel⟩

theorem ok_gaps_by (B : Bl mg) (D_L_cell_at : Df P Wd K mg base "_law_cell_at" 1 p_L_cell_at (spCellAt K)) (f : Addr) (fd : FuncData) (F : Fun K "_law_gaps_by" "_law_gaps_by" s_L_gaps_by f fd) : FnOk P Wd K mg base CX0 2 f fd p_L_gaps_by (spGapsBy K) := by
  refine F.ok sc_L_gaps_by (fun vs H Q E h => ?_) (fun cdv A outer s H vs Q E hr h => ?_)
  · obtain ⟨a, ns, st, w, h, way, rfl, _⟩ := h
    rfl
  · obtain ⟨a, ns, st, w, h, way, rfl, hs, h0, w0, w1, h1, h2, q⟩ := h
    refine ⟨_,
      (pss_cons (ps_set (i := 5) sc_L_gaps_by.nd rfl (by first | exact Or.inl rfl | exact Or.inr rfl) (pe_lst pa_nil))
      (pss_cons (ps_for PassesOwn.never (by rfl) (pi_range1 (by rfl) B.range (pa_cons (L2.pv 3) pa_nil)) (pg_name (i := 6) sc_L_gaps_by.nd rfl (by first | exact Or.inl rfl | exact Or.inr rfl))
        (pss_cons (ps_set (i := 7) sc_L_gaps_by.nd rfl (by first | exact Or.inl rfl | exact Or.inr rfl) (pe_cl (by exact D_L_cell_at) (by exact hr.mono (by decide)) (pa_cons (L2.pv 0) (pa_cons (pe_op op_add (L2.pv 1) (L2.pv 6)) pa_nil))))
         (pss_cons (ps_cut (ps_if (pt_cmpR op_eq (pe_op op_mod (pe_op op_fdiv (L2.pv 4) pe_int) pe_int) pe_int (nomark _))
           (pss_cons (ps_set (i := 7) sc_L_gaps_by.nd rfl (by first | exact Or.inl rfl | exact Or.inr rfl) (pe_op op_mod (pe_op op_add (pe_op op_add (L2.pv 7) (pe_op op_mul pe_int (L2.pv 6))) pe_int) pe_int))
            (pss_one (ps_set (i := 7) sc_L_gaps_by.nd rfl (by first | exact Or.inl rfl | exact Or.inr rfl) (pe_op op_mul (pe_op op_mod (pe_op op_mul (L2.pv 7) (L2.pv 7)) pe_int) pe_int))))
           pss_nil))
         (pss_one (ps_for PassesOwn.never (by rfl) (pi_range1 (by rfl) B.range (pa_cons (L2.pv 2) pa_nil)) (pg_name (i := 8) sc_L_gaps_by.nd rfl (by first | exact Or.inl rfl | exact Or.inr rfl))
           (pss_cons (ps_cut (ps_if (pt_cmpR op_lt (pe_op op_mod (L2.pv 7) pe_int) (pe_ixLK K (by rfl) (pe_lst (pa_cons pe_int (pa_cons pe_int (pa_cons pe_int (pa_cons pe_int pa_nil))))) (pe_op op_mod (L2.pv 4) pe_int) (fun _ _ => rfl)) (nomark _))
              (pss_one (ps_expr (pe_bmK K (by rfl) PySem.F.plainAttrs_list PySem.F.slot_list_append PySem.F.type_list_append mt_append (L2.pv 5) (pa_cons (pe_tup (pa_cons (L2.pv 8) (pa_cons (L2.pv 6) pa_nil))) pa_nil))))
              pss_nil))
            (pss_one (ps_set (i := 7) sc_L_gaps_by.nd rfl (by first | exact Or.inl rfl | exact Or.inr rfl) (pe_op op_fdiv (L2.pv 7) pe_int)))))))))
      (pss_cons (ps_cut (ps_if (pt_cmpR op_eq (pe_op op_mod (pe_op op_fdiv (L2.pv 4) pe_int) pe_int) pe_int (nomark _))
        (pss_one (ps_expr (pe_bm0K K (by rfl) PySem.F.plainAttrs_list PySem.F.slot_list_reverse PySem.F.type_list_reverse mt_reverse (L2.pv 5))))
        pss_nil))
      (pss_one (ps_ret (L2.pv 5)))))), ?_⟩
    refine ⟨(by show 0 ≤ sizeLine; decide), fun l hl => ?_⟩
    have s0 : Same H (upd H l (.lst [])) := sameNew hl
    refine ⟨_, rfl, h, rfl, by omega, by omega, for_range (lo := 0) (n := h.toNat) (fun i σ H2 => ∃ v6 v7 v8 : Option V, σ = [some (.ref a), some (.int st), some (.int w), some (.int h), some (.int way), some (.ref l), v6, v7, v8] ∧ Same H H2 ∧ ∃ g, LsA CellV H2 l g ∧ GI w i 0 g) ?_ ?_ ?_⟩
    · exact ⟨none, none, none, rfl, s0, [], ⟨[], upd_same, .nil⟩, List.nodup_nil, fun _ hc => (nomatch hc), by simp⟩
    · rintro i σ H2 hi ⟨v6, v7, v8, rfl, sm, g, hg, gi⟩
      rw [Int.zero_add]
      refine ⟨_, rfl, _, rfl, _, rfl, _, _, rfl, rfl, a, ns, _, rfl, sm.seq hs, by omega, fun z => ?_⟩
      -- the digits are any whole number from here on
      refine ⟨fun σ' H' => H' = H2 ∧ ∃ dg : Int, σ' = [some (.ref a), some (.int st), some (.int w), some (.int h), some (.int way), some (.ref l), some (.int (i : Int)), some (.int dg), v8], ?_, ?_⟩
      · walk_at "rd"
        refine ⟨rfl, _, rfl, iteB (fun _ => ?_) (fun _ => ?_)⟩
        · walk_at "rd"
          refine ⟨.inl ⟨by decide, by decide⟩, ?_⟩
          walk_at "rd"
          have m0 := Int.emod_nonneg (z + 7919 * (i : Int) + 101) (by decide : (2147483647 : Int) ≠ 0)
          have m1 := Int.emod_lt_of_pos (z + 7919 * (i : Int) + 101) (by decide : (0 : Int) < 2147483647)
          refine ⟨.inl ⟨by omega, by omega⟩, ?_⟩
          walk_at "rd"
          refine ⟨.inr ⟨by decide, by decide⟩, ?_⟩
          exact ⟨rfl, _, rfl⟩
        · exact ⟨rfl, _, rfl⟩
      · rintro σ' H' ⟨rfl, dg, rfl⟩
        refine ⟨_, rfl, w, rfl, by omega, by omega, for_range (lo := 0) (n := w.toNat) (fun j σ H3 => ∃ (dg : Int) (v8 : Option V), σ = [some (.ref a), some (.int st), some (.int w), some (.int h), some (.int way), some (.ref l), some (.int (i : Int)), some (.int dg), v8] ∧ Same H H3 ∧ ∃ g, LsA CellV H3 l g ∧ GI w i j g) ?_ ?_ ?_⟩
        · exact ⟨dg, _, rfl, sm, g, hg, gi⟩
        · rintro j σ H3 hj ⟨dg, v8, rfl, sm3, g3, ⟨vs, hl3, pv⟩, gi3⟩
          rw [Int.zero_add]
          refine ⟨fun σ' H' => σ' = [some (.ref a), some (.int st), some (.int w), some (.int h), some (.int way), some (.ref l), some (.int (i : Int)), some (.int dg), some (.int (j : Int))] ∧ Same H H' ∧ ∃ g, LsA CellV H' l g ∧ GI w i (j + 1) g, ?_, ?_⟩
          · walk_at "rd"
            refine ⟨(by show 4 ≤ sizeLine; decide), fun m hm => ?_⟩
            walk_at "rd"
            have s4 : Same H3 (upd H3 m (.lst [.int 0, .int 1, .int 2, .int 4])) := sameNew hm
            obtain ⟨k, hk, hk4⟩ : ∃ k : Nat, way % 4 = (k : Int) ∧ k < 4 := ⟨(way % 4).toNat, by omega, by omega⟩
            obtain ⟨u, hu⟩ : ∃ u : Int, ([.int 0, .int 1, .int 2, .int 4] : List V)[k]? = some (.int u) := by
              match k, hk4 with
              | 0, _ => exact ⟨0, rfl⟩
              | 1, _ => exact ⟨1, rfl⟩
              | 2, _ => exact ⟨2, rfl⟩
              | 3, _ => exact ⟨4, rfl⟩
            refine ⟨m, _, _, _, rfl, rfl, SqL.of upd_same, (by rw [hk]; exact atI_nat hu), _, _, rfl, rfl, _, rfl, iteB (fun _ => ?_) (fun _ => ?_)⟩
            · refine ⟨_, rfl, .inl ⟨rfl, _, SqL.of (s4 _ _ hl3)⟩, _, rfl, _, rfl, (by show 2 ≤ sizeLine; decide), fun t ht => ?_⟩
              have s5 : Same H3 _ := s4.trans (sameNew (o := .tup [.int (j : Int), .int (i : Int)]) ht)
              have hlv := Paired.length pv
              have hgl := gi3.len
              have hb : i * 16 ≤ 16 * 16 := Nat.mul_le_mul (by omega) (Nat.le_refl _)
              refine ⟨l, _, _, rfl, rfl, s5 _ _ hl3, Nat.lt_of_le_of_lt (show vs.length ≤ 1000 by omega) (by decide), ?_⟩
              refine ⟨rfl, sameMut (sm3.trans s5) hl, g3 ++ [((j : Int), (i : Int))], ?_, gi3.add (by omega)⟩
              exact push_ls rep_cell (s5 _ _ hl3) (pair_mono rep_cell (TP.of s5) pv) ⟨t, rfl, upd_same⟩
            · exact ⟨rfl, sm3.trans s4, g3, ⟨vs, s4 _ _ hl3, pair_mono rep_cell (TP.of s4) pv⟩, gi3.step⟩
          · rintro σ' H' ⟨rfl, sm4, g4, hg4, gi4⟩
            walk_at "rd"
            exact ⟨_, _, rfl, sm4, g4, hg4, gi4⟩
        · rintro σ H3 ⟨dg, v8, rfl, sm3, g3, hg3, gi3⟩
          exact ⟨_, _, _, rfl, sm3, g3, hg3, gi3.row w0 w1⟩
    · rintro σ H2 ⟨v6, v7, v8, rfl, sm, g, ⟨vs, hl2, pv⟩, gi⟩
      have ibg : InB w h g := fun c hc => by have := gi.ib c hc; omega
      refine ⟨fun σ' H' => ∃ g', σ'[5]? = some (some (.ref l)) ∧ Same H H' ∧ LsA CellV H' l g' ∧ g'.Nodup ∧ InB w h g', ?_, ?_⟩
      · walk_at "rd"
        refine ⟨rfl, _, rfl, iteB (fun _ => ?_) (fun _ => ?_)⟩
        · refine ⟨_, rfl, .inl ⟨rfl, _, SqL.of hl2⟩, l, vs, rfl, rfl, hl2, ?_⟩
          refine ⟨g.reverse, rfl, sameMut sm hl, ⟨vs.reverse, upd_same, pair_rev (pair_mono rep_cell (TP.lst hl2) pv)⟩, nodup_rev gi.nd, fun c hc => ibg c (List.mem_reverse.mp hc)⟩
        · exact ⟨g, rfl, sm, ⟨vs, hl2, pv⟩, gi.nd, ibg⟩
      · rintro σ' H' ⟨g', e5, sm', hg', nd', ib'⟩
        exact ⟨_, e5, q _ _ g' ⟨sm', hl, hg'⟩ nd' ib'⟩

abbrev s_L_open : Stmt := top 17
abbrev n_L_open : List Str := ["width", "height", "gaps", "there", "gap", "k"]
abbrev p_L_open : List Str := ["width", "height", "gaps"]
theorem sc_L_open : FnScope n_L_open p_L_open (defScope s_L_open) := ⟨rfl, rfl, rfl, by decide +kernel, rfl, by decide +kernel, by decide +kernel⟩

def spLawOpen : Sp := fun vs H Q _ => ∃ (ga : Addr) (w h : Int) (g : List Cell), vs = [.int w, .int h, .ref ga] ∧ LsA CellV H ga g ∧ g.length ≤ 100000 ∧ Sides w h ∧ ∀ H' q, NewL CellV H H' q (openC w h g) → Q (.ref q) H'
theorem ok_L_open (B : Bl mg) (f : Addr) (fd : FuncData) (F : Fun K "_law_open" "_law_open" s_L_open f fd) : FnOk P Wd K mg base CX0 1 f fd p_L_open spLawOpen := by
  refine F.ok sc_L_open (fun vs H Q E h => ?_) (fun cdv A outer s H vs Q E hr h => ?_)
  · obtain ⟨ga, w, h, g, rfl, _⟩ := h
    rfl
  · obtain ⟨ga, w, h, g, rfl, hg, hgl, ⟨s1, s2, s3, s4⟩, q⟩ := h
    have hu := hu_of hr
    refine ⟨_,
      (pss_cons (ps_set (i := 3) sc_L_open.nd rfl (by first | exact Or.inl rfl | exact Or.inr rfl) pe_dnewT)
      (pss_cons (ps_for PassesOwn.never (by rfl) (pi_listK K (by rfl) (L2.pv 2)) (pg_name (i := 4) sc_L_open.nd rfl (by first | exact Or.inl rfl | exact Or.inr rfl))
        (pss_one (ps_dput (by exact hu) (L2.pv 3) (L2.pv 4) pe_bl rfl)))
      (pss_one (ps_ret (pe_lc (own := [("k", 5)]) (by rfl) sc_L_open.nd  (pi_range1 (by rfl) B.range (pa_cons (pe_op op_mul (L2.pv 0) (L2.pv 1)) pa_nil)) (blkOk_by (own := [("k", 5)]) (N := n_L_open) (sc := defScope s_L_open) (by decide +kernel)) (fun _ _ _ _ _ => (pg_name (i := 5) sc_L_open.nd rfl (by first | exact Or.inl rfl | exact Or.inr rfl))) (fun _ _ _ _ _ => pts_one (by exact (pt_cmp (pc_dnotin (by exact hu) (pe_tup (pa_cons (pe_op op_fdiv (L2.pv 5) (L2.pv 1)) (pa_cons (pe_op op_mod (L2.pv 5) (L2.pv 1)) pa_nil))) (L2.pv 3))))) (fun _ _ _ _ _ => by exact (pe_tup (pa_cons (pe_op op_fdiv (L2.pv 5) (L2.pv 1)) (pa_cons (pe_op op_mod (L2.pv 5) (L2.pv 1)) pa_nil))))))))), ?_⟩
    intro d hd
    obtain ⟨gs, hga, pg⟩ := hg
    have sd0 : Same H (upd H d (.dT [])) := sameNew hd
    have hgsl := Paired.length pg
    refine ⟨_, rfl, ga, rfl, ⟨gs, SqL.of (sd0 _ _ hga)⟩, for_list (K := K) (a := ga) (xs := gs) (fun i σ H2 => ∃ v4 : Option V, σ = [some (.int w), some (.int h), some (.ref ga), some (.ref d), v4, none] ∧ Same H H2 ∧ ∃ g' : List Cell, H2 d = some (.dT (g'.map gE)) ∧ (∀ c, c ∈ g' ↔ c ∈ g.take i) ∧ g'.length ≤ i) ?_ ?_ ?_ ?_⟩
    · exact ⟨none, rfl, sd0, [], upd_same, by simp, Nat.zero_le _⟩
    · rintro i σ H2 _ ⟨v4, rfl, sm, _⟩
      exact SqL.of (sm _ _ hga)
    · rintro i y σ H2 hi ⟨v4, rfl, sm, g', hd2, hm, hl⟩
      obtain ⟨c, hc, t, rfl, ht⟩ := getE pg hi
      have hil := (List.getElem?_eq_some_iff.mp hc).1
      have etk : g.take (i + 1) = g.take i ++ [c] := by rw [List.take_add_one, hc]; rfl
      refine ⟨_, rfl, _, rfl, d, _, rfl, DPut.t (k := ck c) hd2 (sm _ _ ht) (Nat.lt_of_le_of_lt (show (g'.map gE).length ≤ 100000 by rw [List.length_map]; omega) (by decide)), ?_⟩
      refine ⟨_, rfl, sameMut sm hd, if c ∈ g' then g' else g' ++ [c], by rw [upd_same, valV_gE_put], fun x => ?_, ?_⟩
      · rw [etk, List.mem_append, ← hm x]
        by_cases h1 : c ∈ g'
        · rw [if_pos h1]
          constructor
          · exact fun z => .inl z
          · rintro (z | z)
            · exact z
            · rw [show x = c by simpa using z]; exact h1
        · rw [if_neg h1, List.mem_append]
      · split
        · omega
        · rw [List.length_append, List.length_singleton]; omega
    · rintro σ H2 ⟨v4, rfl, sm, g', hd2, hm, hl⟩
      obtain ⟨wn, rfl⟩ : ∃ n : Nat, w = (n : Int) := ⟨w.toNat, by omega⟩
      obtain ⟨hn, rfl⟩ : ∃ n : Nat, h = (n : Int) := ⟨h.toNat, by omega⟩
      have hm' : ∀ c, c ∈ g' ↔ c ∈ g := fun c => by rw [hm c, List.take_of_length_le (by omega)]
      have hwh : wn * hn ≤ 16 * 16 := Nat.mul_le_mul (by omega) (by omega)
      have hwi : (wn : Int) * (hn : Int) = ((wn * hn : Nat) : Int) := by rw [Int.natCast_mul]
      refine ⟨_, rfl, _, rfl, _, _, rfl, rfl, .inl ⟨by omega, by omega⟩, ?_⟩
      refine ⟨((wn * hn : Nat) : Int), congrArg (fun z => [V.int z]) hwi, by omega, by omega, fun D hD => ?_⟩
      rw [Int.toNat_natCast]
      have ndD : d ≠ D := ne_of_none hd2 hD
      refine lc_range (lo := 0) (n := wn * hn) (fun j H3 => Same H H3 ∧ H3 d = some (.dT (g'.map gE)) ∧ LsA CellV H3 D (lawTo (hn : Int) g j)) ?_ ?_ ?_
      · exact ⟨sm.trans (sameNew hD), by rw [upd_ne ndD]; exact hd2, [], upd_same, .nil⟩
      · rintro j H3 hj ⟨sm3, hd3, acc, hD3, pa⟩
        rw [Int.zero_add]
        have hp : (0 : Int) < (hn : Int) := by omega
        have hcd : CDiv (j : Int) (hn : Int) := ⟨hp, by omega⟩
        refine ⟨rfl, _, rfl, _, rfl, _, _, rfl, rfl, hcd, _, rfl, _, rfl, _, _, rfl, rfl, hp, (by show 2 ≤ sizeLine; decide), fun t ht => ?_⟩
        have s4 : Same H3 (upd H3 t (.tup [.int ((j : Int) / (hn : Int)), .int ((j : Int) % (hn : Int))])) := sameNew ht
        refine ⟨_, rfl, d, _, rfl, DGet.t (k := ck ((j : Int) / (hn : Int), (j : Int) % (hn : Int))) (s4 _ _ hd3) upd_same, _, rfl, ?_⟩
        rw [valV_gE_some]
        have hls := lawTo_succ (hn : Int) g j
        have hll := lawTo_length (hn : Int) g j
        have hal := Paired.length pa
        refine iteB (fun e => ?_) (fun e => ?_)
        · have hn' : ((j : Int) / (hn : Int), (j : Int) % (hn : Int)) ∉ g := by rw [← hm']; simpa using e
          rw [if_neg hn'] at hls
          refine ⟨_, rfl, _, rfl, _, _, rfl, rfl, hcd, _, rfl, _, rfl, _, _, rfl, rfl, hp, (by show 2 ≤ sizeLine; decide), fun t2 ht2 => ?_⟩
          have s5 := s4.trans (sameNew (o := .tup [.int ((j : Int) / (hn : Int)), .int ((j : Int) % (hn : Int))]) ht2)
          refine ⟨acc, s5 _ _ hD3, Nat.lt_of_le_of_lt (show acc.length ≤ 256 by omega) (by decide), sameMut (sm3.trans s5) (sm.free hD), (by rw [upd_ne ndD]; exact s5 _ _ hd3), ?_⟩
          rw [hls]
          exact push_ls rep_cell (s5 _ _ hD3) (pair_mono rep_cell (TP.of s5) pa) ⟨t2, rfl, upd_same⟩
        · have hn' : ((j : Int) / (hn : Int), (j : Int) % (hn : Int)) ∈ g := by rw [← hm']; simpa using e
          rw [if_pos hn', List.append_nil] at hls
          refine ⟨sm3.trans s4, s4 _ _ hd3, acc, s4 _ _ hD3, ?_⟩
          rw [hls]
          exact pair_mono rep_cell (TP.of s4) pa
      · rintro H3 ⟨sm3, _, hD3⟩
        refine q _ _ ⟨sm3, sm.free hD, ?_⟩
        unfold openC
        rw [Int.toNat_natCast, ← lawTo_open]
        exact hD3

abbrev s_L_is_cell : Stmt := top 18
abbrev n_L_is_cell : List Str := ["cell"]
abbrev p_L_is_cell : List Str := ["cell"]
theorem sc_L_is_cell : FnScope n_L_is_cell p_L_is_cell (defScope s_L_is_cell) := ⟨rfl, rfl, rfl, by decide +kernel, rfl, by decide +kernel, by decide +kernel⟩

def spIsCell : Sp := fun vs H Q _ => ∃ (v : V) (c : Cell), vs = [v] ∧ CellV H v c ∧ Q (.bl true) H
theorem ok_is_cell (B : Bl mg) (D_L_whole : Df P Wd K mg base "_law_whole" 1 p_L_whole spWhole) (f : Addr) (fd : FuncData) (F : Fun K "_law_is_cell" "_law_is_cell" s_L_is_cell f fd) : FnOk P Wd K mg base CX0 2 f fd p_L_is_cell spIsCell := by
  refine F.ok sc_L_is_cell (fun vs H Q E h => ?_) (fun cdv A outer s H vs Q E hr h => ?_)
  · obtain ⟨v, c, rfl, _⟩ := h
    rfl
  · obtain ⟨v, c, rfl, ⟨t, rfl, ht⟩, q⟩ := h
    refine ⟨_,
      (pss_one (ps_ret (pe_and (pe_callB (cr_isi K (by rfl)) (by rfl) B.isinstance bt_isinstance (pa_cons (L2.pv 0) (pa_cons (pe_bltn (v := .ty "tuple") (by rfl) B.tuple bt_tuple rfl) pa_nil))) (pe_and (pe_cmpR op_eq (pe_callB (cr_len K (by rfl)) (by rfl) B.len bt_len (pa_cons (L2.pv 0) pa_nil)) pe_int (nomark _)) (pe_and (pe_cl (by exact D_L_whole) (by exact hr.mono (by decide)) (pa_cons (pe_ixTK K (by rfl) (L2.pv 0) pe_int (fun _ _ => rfl)) pa_nil)) (pe_one (pe_cl (by exact D_L_whole) (by exact hr.mono (by decide)) (pa_cons (pe_ixTK K (by rfl) (L2.pv 0) pe_int (fun _ _ => rfl)) pa_nil)))))))), ?_⟩
    refine ⟨_, rfl, _, _, _, _, true, rfl, .ty _, .base (.tup ht), kit_ty (by decide +kernel), _, rfl, iteT ?_⟩
    refine ⟨_, rfl, t, _, rfl, .inr (SqT.of ht), rfl, _, rfl, iteT ?_⟩
    refine ⟨_, rfl, t, _, _, _, rfl, rfl, SqT.of ht, atI_nat (j := 0) rfl, c.1, rfl, _, rfl, iteT ?_⟩
    exact ⟨_, rfl, t, _, _, _, rfl, rfl, SqT.of ht, atI_nat (j := 1) rfl, c.2, rfl, q⟩

abbrev s_L_is_cells : Stmt := top 19
abbrev n_L_is_cells : List Str := ["found", "due", "cell"]
abbrev p_L_is_cells : List Str := ["found", "due"]
theorem sc_L_is_cells : FnScope n_L_is_cells p_L_is_cells (defScope s_L_is_cells) := ⟨rfl, rfl, rfl, by decide +kernel, rfl, by decide +kernel, by decide +kernel⟩

def spIsCells : Sp := fun vs H Q _ => ∃ (a b : Addr) (l m : List Cell), vs = [.ref a, .ref b] ∧ LsA CellV H a l ∧ LsA CellV H b m ∧ Q (.bl (decide (l = m))) H
theorem ok_is_cells (B : Bl mg) (D_L_is_cell : Df P Wd K mg base "_law_is_cell" 2 p_L_is_cell spIsCell) (f : Addr) (fd : FuncData) (F : Fun K "_law_is_cells" "_law_is_cells" s_L_is_cells f fd) : FnOk P Wd K mg base CX0 3 f fd p_L_is_cells spIsCells := by
  refine F.ok sc_L_is_cells (fun vs H Q E h => ?_) (fun cdv A outer s H vs Q E hr h => ?_)
  · obtain ⟨a, b, l, m, rfl, _⟩ := h
    rfl
  · obtain ⟨a, b, l, m, rfl, ha, hb, q⟩ := h
    obtain ⟨vs, h1, p1⟩ := id ha
    refine ⟨_,
      (pss_cons (ps_if (pt_not (pt_val (pe_callB (cr_isi K (by rfl)) (by rfl) B.isinstance bt_isinstance (pa_cons (L2.pv 0) (pa_cons (pe_bltn (v := .ty "list") (by rfl) B.list bt_list rfl) pa_nil)))))
        (pss_one (ps_ret pe_bl))
        pss_nil)
      (pss_cons (ps_for PassesOwn.never (by rfl) (pi_listK K (by rfl) (L2.pv 0)) (pg_name (i := 2) sc_L_is_cells.nd rfl (by first | exact Or.inl rfl | exact Or.inr rfl))
        (pss_one (ps_if (pt_not (pt_val (pe_cl (by exact D_L_is_cell) (by exact hr.mono (by decide)) (pa_cons (L2.pv 2) pa_nil))))
           (pss_one (ps_ret pe_bl))
           pss_nil)))
      (pss_one (ps_ret (pe_cmpR (op_eqK K (by rfl) (by exact hr.units)) (L2.pv 0) (L2.pv 1) (nomark _)))))), ?_⟩
    refine ⟨_, rfl, _, _, _, _, true, rfl, .ty _, .base (.lst h1), kit_ty (by decide +kernel), _, rfl, iteF ?_⟩
    refine ⟨_, rfl, a, rfl, ⟨vs, SqL.of h1⟩, for_list (K := K) (a := a) (xs := vs) (fun i σ H2 => ∃ v2 : Option V, σ = [some (.ref a), some (.ref b), v2] ∧ H2 = H) ⟨none, rfl, rfl⟩ ?_ ?_ ?_⟩
    · rintro i σ H2 _ ⟨v2, _, rfl⟩
      exact SqL.of h1
    · rintro i y σ H2 hi ⟨v2, rfl, rfl⟩
      obtain ⟨c, hc, hv⟩ := getE p1 hi
      exact ⟨_, rfl, y, c, rfl, hv, _, rfl, iteF ⟨_, rfl, rfl⟩⟩
    · rintro σ H2 ⟨v2, rfl, rfl⟩
      exact ⟨_, rfl, _, rfl, eq_ls rep_cell ge_cell (by decide) ha hb q⟩

abbrev s_L_drawn : Stmt := top 20
abbrev n_L_drawn : List Str := ["script", "most", "head", "width", "height"]
abbrev p_L_drawn : List Str := ["script", "most"]
theorem sc_L_drawn : FnScope n_L_drawn p_L_drawn (defScope s_L_drawn) := ⟨rfl, rfl, rfl, by decide +kernel, rfl, by decide +kernel, by decide +kernel⟩

def spDrawn (K : PySem.W.Frag) : Sp := fun vs H Q _ => ∃ (a : Addr) (ns : List Int), vs = [.ref a, .int 16] ∧ SqL K H a (ns.map V.int) ∧
  ∀ H' t q w h g, Same H H' → H' t = some (.tup [.int w, .int h, .ref q]) → H q = none → LsA CellV H' q g → Sides w h → g.Nodup → InB w h g → Q (.ref t) H'
theorem ok_drawn (B : Bl mg) (D_L_cell_at : Df P Wd K mg base "_law_cell_at" 1 p_L_cell_at (spCellAt K)) (D_L_gaps_by : Df P Wd K mg base "_law_gaps_by" 2 p_L_gaps_by (spGapsBy K)) (f : Addr) (fd : FuncData) (F : Fun K "_law_drawn" "_law_drawn" s_L_drawn f fd) :
    FnOk P Wd K mg base CX0 3 f fd p_L_drawn (spDrawn K) := by
  refine F.ok sc_L_drawn (fun vs H Q E h => ?_) (fun cdv A outer s H vs Q E hr h => ?_)
  · obtain ⟨a, ns, rfl, _⟩ := h
    rfl
  · obtain ⟨a, ns, rfl, hs, q⟩ := h
    have e6 : (if (16 : Int) < 6 then (16 : Int) else 6) = 6 := by decide
    refine ⟨_,
      (pss_cons (ps_set (i := 2) sc_L_drawn.nd rfl (by first | exact Or.inl rfl | exact Or.inr rfl) (pe_cl (by exact D_L_cell_at) (by exact hr.mono (by decide)) (pa_cons (L2.pv 0) (pa_cons pe_int pa_nil))))
      (pss_cons (ps_set (i := 3) sc_L_drawn.nd rfl (by first | exact Or.inl rfl | exact Or.inr rfl) (pe_op op_add pe_int (pe_op op_mod (L2.pv 2) (pe_callB (call_min2 (by rfl)) (by rfl) B.min bt_min (pa_cons pe_int (pa_cons (L2.pv 1) pa_nil))))))
      (pss_cons (ps_set (i := 4) sc_L_drawn.nd rfl (by first | exact Or.inl rfl | exact Or.inr rfl) (pe_op op_add pe_int (pe_op op_mod (pe_op op_fdiv (L2.pv 2) pe_int) (pe_callB (call_min2 (by rfl)) (by rfl) B.min bt_min (pa_cons pe_int (pa_cons (L2.pv 1) pa_nil))))))
      (pss_cons (ps_cut (ps_if (pt_cmpR op_eq (pe_op op_mod (pe_op op_fdiv (L2.pv 2) pe_int) pe_int) pe_int (nomark _))
        (pss_cons (ps_set (i := 3) sc_L_drawn.nd rfl (by first | exact Or.inl rfl | exact Or.inr rfl) (pe_op op_add pe_int (pe_op op_mod (pe_op op_fdiv (L2.pv 2) pe_int) (L2.pv 1))))
         (pss_one (ps_set (i := 4) sc_L_drawn.nd rfl (by first | exact Or.inl rfl | exact Or.inr rfl) (pe_op op_add pe_int (pe_op op_mod (pe_op op_fdiv (pe_op op_fdiv (L2.pv 2) pe_int) (L2.pv 1)) (L2.pv 1))))))
        pss_nil))
      (pss_one (ps_ret (pe_tup (pa_cons (L2.pv 3) (pa_cons (L2.pv 4) (pa_cons (pe_cl (by exact D_L_gaps_by) (by exact hr.mono (by decide)) (pa_cons (L2.pv 0) (pa_cons pe_int (pa_cons (L2.pv 3) (pa_cons (L2.pv 4) (pa_cons (pe_cl (by exact D_L_cell_at) (by exact hr.mono (by decide)) (pa_cons (L2.pv 0) (pa_cons pe_int pa_nil))) pa_nil)))))) pa_nil)))))))))), ?_⟩
    refine ⟨_, rfl, a, ns, _, rfl, hs, by decide, fun hd => ?_⟩
    refine ⟨_, rfl, _, rfl, _, _, rfl, ?_⟩
    rw [e6]
    walk_at "rd"
    refine ⟨_, _, rfl, ?_⟩
    rw [e6]
    walk_at "rd"
    have a1 := Int.emod_nonneg hd (by decide : (6 : Int) ≠ 0)
    have a2 := Int.emod_lt_of_pos hd (by decide : (0 : Int) < 6)
    have b1 := Int.emod_nonneg (hd / 6) (by decide : (6 : Int) ≠ 0)
    have b2 := Int.emod_lt_of_pos (hd / 6) (by decide : (0 : Int) < 6)
    refine ⟨fun σ' H' => H' = H ∧ ∃ w h : Int, Sides w h ∧ σ' = [some (.ref a), some (.int 16), some (.int hd), some (.int w), some (.int h)], ?_, ?_⟩
    · walk_at "rd"
      refine ⟨rfl, _, rfl, iteB (fun _ => ?_) (fun _ => ?_)⟩
      · walk_at "rd"
        have c1 := Int.emod_nonneg (hd / 144) (by decide : (16 : Int) ≠ 0)
        have c2 := Int.emod_lt_of_pos (hd / 144) (by decide : (0 : Int) < 16)
        have d1 := Int.emod_nonneg (hd / 144 / 16) (by decide : (16 : Int) ≠ 0)
        have d2 := Int.emod_lt_of_pos (hd / 144 / 16) (by decide : (0 : Int) < 16)
        exact ⟨rfl, _, _, ⟨by omega, by omega, by omega, by omega⟩, rfl⟩
      · exact ⟨rfl, _, _, ⟨by omega, by omega, by omega, by omega⟩, rfl⟩
    · rintro σ' H' ⟨rfl, w, h, sd, rfl⟩
      obtain ⟨s1, s2, s3, s4⟩ := id sd
      refine ⟨_, rfl, _, rfl, _, rfl, _, rfl, _, rfl, _, rfl, a, ns, _, rfl, hs, by decide, fun way => ?_⟩
      refine ⟨a, ns, _, _, _, _, rfl, hs, by decide, by omega, s2, by omega, s4, fun H2 l g hn nd ib => ?_⟩
      refine ⟨(by show 3 ≤ sizeLine; decide), fun t ht => ?_⟩
      have st : Same H2 (upd H2 t (.tup [.int w, .int h, .ref l])) := sameNew ht
      exact q _ t l w h g (hn.1.trans st) upd_same hn.2.1 (hn.2.2.keep rep_cell st) sd nd ib

abbrev s_L_same : Stmt := top 21
abbrev n_L_same : List Str := ["board", "width", "height", "gaps", "sides", "cells", "told"]
abbrev p_L_same : List Str := ["board", "width", "height", "gaps"]
theorem sc_L_same : FnScope n_L_same p_L_same (defScope s_L_same) := ⟨rfl, rfl, rfl, by decide +kernel, rfl, by decide +kernel, by decide +kernel⟩

def spSame (C : Addr) : Sp := fun vs H Q _ => ∃ (p ga : Addr) (w h : Int) (g g' : List Cell), vs = [.ref p, .int w, .int h, .ref ga] ∧ BoardAt C H p w h g ∧ LsA CellV H ga g' ∧ g.Perm g' ∧ ∀ H', Same H H' → Q (.bl true) H'
theorem ok_same (B : Bl mg) (BT : BTx K mg C) (D_L_whole : Df P Wd K mg base "_law_whole" 1 p_L_whole spWhole) (D_L_open : Df P Wd K mg base "_law_open" 1 p_L_open spLawOpen) (D_L_is_cells : Df P Wd K mg base "_law_is_cells" 3 p_L_is_cells spIsCells)
    (M_width : Mf P Wd K mg base C "width" 1 p_B_width (spWidth C)) (M_height : Mf P Wd K mg base C "height" 1 p_B_height (spHeight C)) (M_gaps : Mf P Wd K mg base C "gaps" 1 p_B_gaps (spGaps C)) (M_open_cells : Mf P Wd K mg base C "open_cells" 1 p_B_open_cells (spOpen C))
    (f : Addr) (fd : FuncData) (F : Fun K "_law_same" "_law_same" s_L_same f fd) : FnOk P Wd K mg base CX0 4 f fd p_L_same (spSame C) := by
  refine F.ok sc_L_same (fun vs H Q E h => ?_) (fun cdv A outer s H vs Q E hr h => ?_)
  · obtain ⟨p, ga, w, h, g, g', rfl, _⟩ := h
    rfl
  · obtain ⟨p, ga, w, h, g, g', rfl, b, hg, hp, q⟩ := h
    obtain ⟨dx, d, h1, h2⟩ := id b.ob
    refine ⟨_,
      (pss_cons (ps_set (i := 4) sc_L_same.nd rfl (by first | exact Or.inl rfl | exact Or.inr rfl) (pe_lst (pa_cons (pe_mth0 (L2.pv 0) BT.cl (by exact M_width) (by exact hr.mono (by decide))) (pa_cons (pe_mth0 (L2.pv 0) BT.cl (by exact M_height) (by exact hr.mono (by decide))) pa_nil))))
      (pss_cons (ps_if (PW.pt (pw_or (pt_not (pt_val (pe_cl (by exact D_L_whole) (by exact hr.mono (by decide)) (pa_cons (pe_ixLK K (by rfl) (L2.pv 4) pe_int (fun _ _ => rfl)) pa_nil)))) (pw_or (pt_not (pt_val (pe_cl (by exact D_L_whole) (by exact hr.mono (by decide)) (pa_cons (pe_ixLK K (by rfl) (L2.pv 4) pe_int (fun _ _ => rfl)) pa_nil)))) (pw_or1 (pt_cmpR (op_neK K (by rfl) (by exact hr.units)) (L2.pv 4) (pe_lst (pa_cons (L2.pv 1) (pa_cons (L2.pv 2) pa_nil))) (nomark _))))))
        (pss_one (ps_ret pe_bl))
        pss_nil)
      (pss_cons (ps_set (i := 5) sc_L_same.nd rfl (by first | exact Or.inl rfl | exact Or.inr rfl) (pe_cl (by exact D_L_open) (by exact hr.mono (by decide)) (pa_cons (L2.pv 1) (pa_cons (L2.pv 2) (pa_cons (L2.pv 3) pa_nil)))))
      (pss_cons (ps_set (i := 6) sc_L_same.nd rfl (by first | exact Or.inl rfl | exact Or.inr rfl) (pe_lst (pa_cons (pe_mth0 (L2.pv 0) BT.cl (by exact M_gaps) (by exact hr.mono (by decide))) (pa_cons (pe_mth0 (L2.pv 0) BT.cl (by exact M_open_cells) (by exact hr.mono (by decide))) pa_nil))))
      (pss_cons (ps_if (PW.pt (pw_or (pt_not (pt_val (pe_cl (by exact D_L_is_cells) (by exact hr.mono (by decide)) (pa_cons (pe_ixLK K (by rfl) (L2.pv 6) pe_int (fun _ _ => rfl)) (pa_cons (pe_callB (cr_sortK K rep_cell ge_cell se_cell (by decide) (by rfl) (by exact hr.units)) (by rfl) B.sorted bt_sorted (pa_cons (L2.pv 3) pa_nil)) pa_nil))))) (pw_or1 (pt_not (pt_val (pe_cl (by exact D_L_is_cells) (by exact hr.mono (by decide)) (pa_cons (pe_ixLK K (by rfl) (L2.pv 6) pe_int (fun _ _ => rfl)) (pa_cons (L2.pv 5) pa_nil))))))))
        (pss_one (ps_ret pe_bl))
        pss_nil)
      (pss_cons (ps_expr (pe_bmK K (by rfl) PySem.F.plainAttrs_list PySem.F.slot_list_append PySem.F.type_list_append mt_append (pe_ixLK K (by rfl) (L2.pv 6) pe_int (fun _ _ => rfl)) (pa_cons (pe_tup (pa_cons pe_int (pa_cons pe_int pa_nil))) pa_nil)))
      (pss_cons (ps_expr (pe_bm0K K (by rfl) PySem.F.plainAttrs_list PySem.F.slot_list_clear PySem.F.type_list_clear mt_clear (pe_ixLK K (by rfl) (L2.pv 6) pe_int (fun _ _ => rfl))))
      (pss_one (ps_ret (pe_and (pe_cmpR (op_eqK K (by rfl) (by exact hr.units)) (pe_mth0 (L2.pv 0) BT.cl (by exact M_gaps) (by exact hr.mono (by decide))) (pe_callB (cr_sortK K rep_cell ge_cell se_cell (by decide) (by rfl) (by exact hr.units)) (by rfl) B.sorted bt_sorted (pa_cons (L2.pv 3) pa_nil)) (nomark _)) (pe_one (pe_cmpR (op_eqK K (by rfl) (by exact hr.units)) (pe_mth0 (L2.pv 0) BT.cl (by exact M_open_cells) (by exact hr.mono (by decide))) (L2.pv 5) (nomark _))))))))))))), ?_⟩
    refine ⟨_, rfl, p, _, _, rfl, h1, bF_width w h d, p, w, h, g, rfl, b, ?_⟩
    refine ⟨_, rfl, p, _, _, rfl, h1, bF_height w h d, p, w, h, g, rfl, b, ?_⟩
    refine ⟨(by show 2 ≤ sizeLine; decide), fun l hl => ?_⟩
    have s0 : Same H (upd H l (.lst [.int w, .int h])) := sameNew hl
    have hl0 : upd H l (.lst [.int w, .int h]) l = some (.lst [.int w, .int h]) := upd_same
    revert s0 hl0
    generalize upd H l (.lst [.int w, .int h]) = H0
    intro s0 hl0
    refine ⟨_, rfl, l, _, _, _, rfl, rfl, SqL.of hl0, atI_nat (j := 0) rfl, w, rfl, _, rfl, iteF ?_⟩
    refine ⟨_, rfl, l, _, _, _, rfl, rfl, SqL.of hl0, atI_nat (j := 1) rfl, h, rfl, _, rfl, iteF ?_⟩
    refine ⟨_, rfl, _, rfl, _, rfl, (by show 2 ≤ sizeLine; decide), fun l2 hl2 => ?_⟩
    have s1 : Same H0 (upd H0 l2 (.lst [.int w, .int h])) := sameNew hl2
    refine ne_ls (α := Int) rep_int ge_int (by decide) (l := [w, h]) (m := [w, h]) ⟨_, s1 _ _ hl0, .cons rfl (.cons rfl .nil)⟩ ⟨_, upd_same, .cons rfl (.cons rfl .nil)⟩ ?_
    refine ⟨_, rfl, ?_⟩
    rw [decide_eq_true (rfl : [w, h] = [w, h])]
    refine iteF ?_
    have s2 := s0.trans s1
    have hgl : g'.length ≤ 256 := by rw [← hp.length_eq]; exact inb_length b.sd b.nd b.inb
    refine ⟨_, rfl, _, rfl, _, rfl, ga, w, h, g', rfl, hg.keep rep_cell s2, by omega, b.sd, fun H2 q0 n0 => ?_⟩
    have s3 := s2.trans n0.1
    have ob3 := s3 _ _ h1
    refine ⟨_, rfl, p, _, _, rfl, ob3, bF_gaps w h d, p, w, h, g, rfl, b.keep s3, fun H3 q1 n1 => ?_⟩
    have s4 := s3.trans n1.1
    have ob4 := s4 _ _ h1
    refine ⟨_, rfl, p, _, _, rfl, ob4, bF_open w h d, p, w, h, g, rfl, b.keep s4, fun H4 q2 n2 => ?_⟩
    have s5 := s4.trans n2.1
    refine ⟨(by show 2 ≤ sizeLine; decide), fun tl htl => ?_⟩
    have s6 : Same H4 (upd H4 tl (.lst [.ref q1, .ref q2])) := sameNew htl
    have htl5 : upd H4 tl (.lst [.ref q1, .ref q2]) tl = some (.lst [.ref q1, .ref q2]) := upd_same
    revert s6 htl5
    generalize upd H4 tl (.lst [.ref q1, .ref q2]) = H5
    intro s6 htl5
    have g1 := (n1.2.2.keep rep_cell n2.1).keep rep_cell s6
    have g2 := n2.2.2.keep rep_cell s6
    have c0 := ((n0.2.2.keep rep_cell n1.1).keep rep_cell n2.1).keep rep_cell s6
    have hga5 := hg.keep rep_cell (s5.trans s6)
    obtain ⟨gv, hgv, pgv⟩ := id hga5
    have ecs : sortC g' = sortC g := (sortC_congr hp).symm
    have eco : openC w h g' = openC w h g := openC_congr (fun c => hp.mem_iff.symm) w h
    rw [eco] at c0
    refine ⟨_, rfl, tl, _, _, _, rfl, rfl, SqL.of htl5, atI_nat (j := 0) rfl, _, rfl, ga, gv, g', rfl, SqL.of hgv, pgv, fun ys r hr5 hys => ?_⟩
    have s7 : Same H5 (upd H5 r (.lst ys)) := sameNew hr5
    refine ⟨q1, r, _, _, rfl, g1.keep rep_cell s7, ⟨ys, upd_same, pair_mono rep_cell (TP.of s7) hys⟩, ?_⟩
    refine ⟨_, rfl, ?_⟩
    rw [decide_eq_true (show sortC g = sortC g' from ecs.symm)]
    refine iteF ?_
    refine ⟨_, rfl, tl, _, _, _, rfl, rfl, SqL.of (s7 _ _ htl5), atI_nat (j := 1) rfl, _, rfl, q2, q0, _, _, rfl, g2.keep rep_cell s7, c0.keep rep_cell s7, ?_⟩
    refine ⟨_, rfl, ?_⟩
    rw [decide_eq_true (rfl : openC w h g = openC w h g)]
    refine iteF ?_
    have s8 := (s5.trans s6).trans s7
    have g1' := g1.keep rep_cell s7
    have g2' := g2.keep rep_cell s7
    have c0' := c0.keep rep_cell s7
    have hg' := hga5.keep rep_cell s7
    have htl6 := s7 _ _ htl5
    revert s8 g1' g2' c0' hg' htl6
    generalize upd H5 r (.lst ys) = H6
    intro s8 g1' g2' c0' hg' htl6
    obtain ⟨v1, hv1, pv1⟩ := id g1'
    have f1 : H q1 = none := s3.free n1.2.1
    have f2 : H q2 = none := s4.free n2.2.1
    have n12 : q1 ≠ q2 := n1.2.2.ne n2.2.1
    have n01 : q0 ≠ q1 := n0.2.2.ne n1.2.1
    have n02 : q0 ≠ q2 := (n0.2.2.keep rep_cell n1.1).ne n2.2.1
    have nt1 : tl ≠ q1 := fun e => by
      obtain ⟨u, hu, _⟩ := n1.2.2.keep rep_cell n2.1
      rw [← e, htl] at hu
      cases hu
    have nt2 : tl ≠ q2 := fun e => by
      obtain ⟨u, hu, _⟩ := n2.2.2
      rw [← e, htl] at hu
      cases hu
    refine ⟨_, rfl, tl, _, _, _, rfl, rfl, SqL.of htl6, atI_nat (j := 0) rfl, .inl ⟨rfl, _, SqL.of hv1⟩, (by show 2 ≤ sizeLine; decide), fun t ht => ?_⟩
    have s9 : Same H6 (upd H6 t (.tup [.int 0, .int 0])) := sameNew ht
    have hv1' := s9 _ _ hv1
    have g2'' := g2'.keep rep_cell s9
    have c0'' := c0'.keep rep_cell s9
    have htl7 := s9 _ _ htl6
    have s10 := s8.trans s9
    have hlv : v1.length ≤ 256 := by
      rw [Paired.length pv1, (sortC_perm g).length_eq]
      exact inb_length b.sd b.nd b.inb
    refine ⟨q1, v1, _, rfl, rfl, hv1', Nat.lt_of_le_of_lt hlv (by decide), ?_⟩
    have s11 := sameMut (o := .lst (v1 ++ [.ref t])) s10 f1
    have g2e := g2''.upd rep_cell n12.symm hv1' (o := .lst (v1 ++ [.ref t]))
    have c0e := c0''.upd rep_cell n01 hv1' (o := .lst (v1 ++ [.ref t]))
    have htl8 : upd (upd H6 t (.tup [.int 0, .int 0])) q1 (.lst (v1 ++ [.ref t])) tl = some (.lst [.ref q1, .ref q2]) := by rw [upd_ne nt1]; exact htl7
    obtain ⟨v2, hv2, pv2⟩ := g2e
    refine ⟨_, rfl, tl, _, _, _, rfl, rfl, SqL.of htl8, atI_nat (j := 1) rfl, .inl ⟨rfl, _, SqL.of hv2⟩, q2, v2, rfl, rfl, hv2, ?_⟩
    have s12 := sameMut (o := .lst []) s11 f2
    have c0f := c0e.upd rep_cell n02 hv2 (o := .lst [])
    revert s12 c0f
    generalize upd (upd (upd H6 t (.tup [.int 0, .int 0])) q1 (.lst (v1 ++ [.ref t]))) q2 (.lst []) = H7
    intro s12 c0f
    refine ⟨_, rfl, p, _, _, rfl, s12 _ _ h1, bF_gaps w h d, p, w, h, g, rfl, b.keep s12, fun H8 r1 m1 => ?_⟩
    have s13 := s12.trans m1.1
    obtain ⟨gv8, hgv8, pgv8⟩ := hg.keep rep_cell s13
    refine ⟨_, rfl, ga, gv8, g', rfl, SqL.of hgv8, pgv8, fun ys2 r2 hr2 hys2 => ?_⟩
    have s14 : Same H8 (upd H8 r2 (.lst ys2)) := sameNew hr2
    refine eq_ls rep_cell ge_cell (by decide) (m1.2.2.keep rep_cell s14) ⟨ys2, upd_same, pair_mono rep_cell (TP.of s14) hys2⟩ ?_
    refine ⟨_, rfl, ?_⟩
    rw [decide_eq_true (show sortC g = sortC g' from ecs.symm)]
    refine iteT ?_
    have s15 := s13.trans s14
    refine ⟨_, rfl, p, _, _, rfl, s15 _ _ h1, bF_open w h d, p, w, h, g, rfl, b.keep s15, fun H9 r3 m3 => ?_⟩
    have c9 := ((c0f.keep rep_cell m1.1).keep rep_cell s14).keep rep_cell m3.1
    refine ⟨_, rfl, eq_ls rep_cell ge_cell (by decide) m3.2.2 c9 ?_⟩
    rw [decide_eq_true (rfl : openC w h g = openC w h g)]
    exact q _ (s15.trans m3.1)

end
end CF

set_option Elab.async false
set_option linter.all false
set_option maxRecDepth 100000
set_option maxHeartbeats 4000000
/-! CFEnd: from what the top left to the bundles, and a law's end. -/
namespace CF
open PySem PySem.Spec PyProof.Rows L2
theorem defIn_mk {K : PySem.W.Frag} {h : Heap} {mg : Str → Option Value} {f : Addr} {x : Str} {st : Stmt} {ps : List Str} {od an : Option Addr} {sl : Array (Option Value)} {oc kV dc pm cd ct : Value} (X : K.In h) (G : h.Ns mainGlobals mg)
    (a : PySem.W.nsIn K mainGlobals x = some (some (.ref f))) (l : K.lookup f = some ⟨oc, od, .func (PySem.W.fnOf x x (defArgs st) (defBody st) (defScope st) .none kV dc pm an cd ct), sl⟩) (c : PySem.W.codeIn K cd x = true) (k : PySem.W.keepIn K (.ref f) = true)
    (hb : ∀ (kV doc pm : Value) (an : Option Addr) (cdv ct : Value) (us : List Value), us.length = ps.length → bindArgs (PySem.W.fnOf x x (defArgs st) (defBody st) (defScope st) .none kV doc pm an cdv ct) ⟨us, []⟩ = pure (ps.zip us)) : DefIn K mg x st ps :=
  ⟨f, _, fun_mk (st := st) l c k, PySem.W.mg_of X G a, (fun_mk (st := st) l c k).binds hb⟩
theorem methIn_mk {K : PySem.W.Frag} {C f : Addr} {x q : Str} {st : Stmt} {ps : List Str} {od an : Option Addr} {sl : Array (Option Value)} {oc kV dc pm cd ct : Value}
    (a : PySem.W.findIn K (.ref C) x = some (some (.ref f))) (i : PySem.W.isFn K (.ref f) = true) (l : K.lookup f = some ⟨oc, od, .func (PySem.W.fnOf x q (defArgs st) (defBody st) (defScope st) .none kV dc pm an cd ct), sl⟩) (c : PySem.W.codeIn K cd q = true) (k : PySem.W.keepIn K (.ref f) = true)
    (hb : ∀ (kV doc pm : Value) (an : Option Addr) (cdv ct : Value) (us : List Value), us.length = ps.length → bindArgs (PySem.W.fnOf x q (defArgs st) (defBody st) (defScope st) .none kV doc pm an cdv ct) ⟨us, []⟩ = pure (ps.zip us)) : MethIn K C x q st ps :=
  ⟨f, _, fun_mk (st := st) l c k, ⟨a, i, k⟩, (fun_mk (st := st) l c k).binds hb⟩
theorem initIn_mk {K : PySem.W.Frag} {h : Heap} {mg : Str → Option Value} {C f : Addr} {x q : Str} {st : Stmt} {ps : List Str} {od an : Option Addr} {sl : Array (Option Value)} {oc kV dc pm cd ct : Value} (X : K.In h) (G : h.Ns mainGlobals mg)
    (aC : PySem.W.nsIn K mainGlobals x = some (some (.ref C))) (mk : PySem.W.makesIn K C = true) (kc : PySem.W.keepIn K (.ref C) = true)
    (a : PySem.W.findIn K (.ref C) "__init__" = some (some (.ref f))) (i : PySem.W.isFn K (.ref f) = true) (l : K.lookup f = some ⟨oc, od, .func (PySem.W.fnOf "__init__" q (defArgs st) (defBody st) (defScope st) .none kV dc pm an cd ct), sl⟩) (c : PySem.W.codeIn K cd q = true) (k : PySem.W.keepIn K (.ref f) = true)
    (hb : ∀ (kV doc pm : Value) (an : Option Addr) (cdv ct : Value) (us : List Value), us.length = ps.length → bindArgs (PySem.W.fnOf "__init__" q (defArgs st) (defBody st) (defScope st) .none kV doc pm an cdv ct) ⟨us, []⟩ = pure (ps.zip us)) : InitIn K mg x C q st ps :=
  ⟨f, _, fun_mk (st := st) l c k, ⟨mk, a, i, kc⟩, PySem.W.mg_of X G aC, (fun_mk (st := st) l c k).binds hb⟩
/-- law itself -/
def LawIn (K : PySem.W.Frag) (mg : Str → Option Value) (st : Stmt) (f : Addr) : Prop := ∃ (od an : Option Addr) (sl : Array (Option Value)) (oc kV dc pm cd ct : Value),
  K.lookup f = some ⟨oc, od, .func (PySem.W.fnOf "law" "law" (defArgs st) (defBody st) (defScope st) .none kV dc pm an cd ct), sl⟩ ∧ PySem.W.codeIn K cd "law" = true ∧ PySem.W.keepIn K (.ref f) = true
theorem lawIn_mk {K : PySem.W.Frag} {h : Heap} {mg : Str → Option Value} {f fa : Addr} {st : Stmt} {od an : Option Addr} {sl : Array (Option Value)} {oc kV dc pm cd ct : Value} (X : K.In h) (G : h.Ns mainGlobals mg) (hfa : mg "law" = some (.ref fa))
    (a : PySem.W.nsIn K mainGlobals "law" = some (some (.ref f))) (l : K.lookup f = some ⟨oc, od, .func (PySem.W.fnOf "law" "law" (defArgs st) (defBody st) (defScope st) .none kV dc pm an cd ct), sl⟩) (c : PySem.W.codeIn K cd "law" = true) (k : PySem.W.keepIn K (.ref f) = true) : LawIn K mg st fa := by
  have e := hfa.symm.trans (PySem.W.mg_of X G a)
  cases e
  exact ⟨od, an, sl, oc, kV, dc, pm, cd, ct, l, c, k⟩
theorem bl_mk {K : PySem.W.Frag} {h : Heap} {mg : Str → Option Value} (X : K.In h) (G : h.Ns mainGlobals mg) (z1 : PySem.W.nsIn K mainGlobals "len" = some none) (z2 : PySem.W.nsIn K mainGlobals "range" = some none) (z3 : PySem.W.nsIn K mainGlobals "sorted" = some none)
    (z4 : PySem.W.nsIn K mainGlobals "list" = some none) (z5 : PySem.W.nsIn K mainGlobals "tuple" = some none) (z6 : PySem.W.nsIn K mainGlobals "isinstance" = some none) (z7 : PySem.W.nsIn K mainGlobals "min" = some none) (z8 : PySem.W.nsIn K mainGlobals "max" = some none)
    (z9 : PySem.W.nsIn K mainGlobals "sum" = some none) (z10 : PySem.W.nsIn K mainGlobals "int" = some none) (z11 : PySem.W.nsIn K mainGlobals "bool" = some none) (z12 : PySem.W.nsIn K mainGlobals "str" = some none) (z13 : PySem.W.nsIn K mainGlobals "ValueError" = some none) : Bl mg :=
  ⟨PySem.W.mg_none_of X G z1, PySem.W.mg_none_of X G z2, PySem.W.mg_none_of X G z3, PySem.W.mg_none_of X G z4, PySem.W.mg_none_of X G z5, PySem.W.mg_none_of X G z6, PySem.W.mg_none_of X G z7, PySem.W.mg_none_of X G z8, PySem.W.mg_none_of X G z9, PySem.W.mg_none_of X G z10, PySem.W.mg_none_of X G z11, PySem.W.mg_none_of X G z12, PySem.W.mg_none_of X G z13⟩
/-- law's: a list of at most 63 ints is handed in, True comes out -/
def spLaw (K : PySem.W.Frag) : Sp := fun vs H Q _ => ∃ (a : Addr) (ns : List Int), vs = [.ref a] ∧ SqL K H a (ns.map V.int) ∧ ns.length ≤ 63 ∧ ∀ H', Q (.bl true) H'
theorem law_end {P : Program} {w : World} {K : PySem.W.Frag} {mg : Str → Option Value} {fa : Addr} {st : Stmt} {k : Nat} (L : LawIn K mg st fa)
    (ok : ∀ (base : Heap) (f : Addr) (fd : FuncData), K.In base → base.Ns mainGlobals mg → Fun K "law" "law" st f fd → FnOk P w K mg base CX0 k f fd ["script"] (spLaw K))
    (hb : ∀ (kV doc pm : Value) (an : Option Addr) (cdv ct v : Value), bindArgs (PySem.W.fnOf "law" "law" (defArgs st) (defBody st) (defScope st) .none kV doc pm an cdv ct) ⟨[v], []⟩ = pure ([("script", v)] : List (Str × Value))) :
    ∃ fd : FuncData, (∀ (s : Shared) (v : Value), BindsTo s fd ⟨[v], []⟩ [("script", v)]) ∧ ∀ base : Heap, K.In base → base.Ns mainGlobals mg → FnOk P w K mg base CX0 k fa fd ["script"] (spLaw K) := by
  obtain ⟨od, an, sl, oc, kV, dc, pm, cd, ct, l, c, kp⟩ := L
  exact ⟨_, fun s v => .of_eq (hb _ _ _ _ _ _ _), fun base h1 h2 => ok base _ _ h1 h2 (fun_mk (st := st) l c kp)⟩
theorem walk {l : PySem.W.OpenLaw} {q : Program} {loose : List Str} {XP : (Str → Option Value) → Heap → Prop} {YP : World → Heap → Prop} {d : DefRec} {K : Params → PySem.W.Frag} (k : Nat) (hr : Room k callerA) (hn : l.most = some 63) (hdf : d.params.defaults = [])
    (hY : ∀ (w : World) (h : Heap), YP w h → (K w.params).In h)
    (F : ∀ (w : World) (mg : Str → Option Value) (fa : Addr) (h : Heap), (K w.params).In h → h.Ns mainGlobals mg → mg d.name = some (.ref fa) →
      ∃ fd : FuncData, (∀ (s : Shared) (u : Value), BindsTo s fd ⟨[u], []⟩ [("script", u)]) ∧ ∀ base : Heap, (K w.params).In base → base.Ns mainGlobals mg → FnOk l.prog w (K w.params) mg base CX0 k fa fd ["script"] (spLaw (K w.params))) :
    PySem.W.WalkO q loose XP YP l.row.toRowW d [] (fun f vs => PySem.call f vs) :=
  L2.walk_of (n := 63) (k := k) (x := "script") (CX := fun _ => CX0) (sp := fun w => spLaw (K w.params)) hn (by decide) hdf hr hY F (fun _ _ a ns hl _ hS => ⟨a, ns, rfl, hS, hl, fun _ => rfl⟩) fun _ _ _ _ _ z => z
end CF

set_option Elab.async false
set_option linter.all false
set_option maxRecDepth 100000
set_option maxHeartbeats 4000000
/-! CFExc: refusals: raising defs, try .. except, what a caught error is asked. -/
namespace CF
open PySem PySem.Spec PyProof.Rows L2

/-! ### promises -/
theorem cxN_cx {P : Program} {w : World} {o : List Env} {H : Hp} {s : Shared} {E : XK} {u : Value} {s' : Shared} (h : L2N.CX P w o H s E u s') : L2.CX P w o H s E u s' := by
  obtain ⟨a, B, H', cls, d, e, fl, r⟩ := h
  exact ⟨a, B, H', cls, d, e, L2H.flyingZ_imp (fun o z => z.zc) fl, r⟩
section
variable {P : Program} {w : World} {K : PySem.W.Frag} {mg : Str → Option Value} {base : Heap} {k : Nat} {f : Addr} {fd : FuncData} {ps : List Str} {sp spX : Sp}
theorem fnN (F : FnOk P w K mg base (L2N.CX P w) k f fd ps sp) : FnOk P w K mg base (L2.CX P w) k f fd ps sp :=
  ⟨F.len, fun A outer s H args us vs Q E hr e0 hb r h => codeAny_mono (F.run A outer s H args us vs Q E hr e0 hb r h) fun r s' q => by
    cases r with
    | error e => exact cxN_cx q
    | ok fl => cases fl <;> exact q⟩
/-- where it refuses nothing -/
theorem fn0 (F : FnOk P w K mg base (L2.CX P w) k f fd ps spX) (h : ∀ vs H Q E, sp vs H Q E → spX vs H Q E0) : FnOk P w K mg base CX0 k f fd ps sp :=
  ⟨fun vs H Q E z => F.len vs H Q E0 (h vs H Q E z), fun A outer s H args us vs Q E hr e0 hb r z => codeAny_mono (F.run A outer s H args us vs Q E0 hr e0 hb r (h _ _ _ _ z)) fun r s' q => by
    cases r with
    | error e =>
      obtain ⟨_, _, _, _, _, _, _, _, _, _, _, _, z⟩ := q
      exact z.elim
    | ok fl => cases fl <;> exact q⟩
theorem okN {x qual : Str} {st : Stmt} {N : List Str} (F : Fun K x qual st f fd) (S : FnScope N ps (defScope st)) (len : ∀ vs H Q E, sp vs H Q E → vs.length = ps.length)
    (hbody : ∀ (cdv : Value) (A : Around) (outer : List Env) (s : Shared) (H : Hp) (vs : List V) (Q : VK) (E : XK), Room k (A.deeper (envOfC qual (defScope st) s.heap.objs.size f cdv)) → sp vs H Q E →
      ∃ t, PSs (cxOf (L2N.CX P w) P w K mg base N qual (defScope st) f cdv A outer s H E) (defBody st) t ∧ t { nx := fun _ H' => Q .non H', rt := Q } (start N vs) H) : FnOk P w K mg base (L2N.CX P w) (k + 1) f fd ps sp := by
  obtain ⟨oc, od, kV, doc, pm, an, cdv, ct, osl, rfl, lk, hcd⟩ := F.ex
  exact fn_of lk hcd S len fun A outer s H vs Q E hr hsp => hbody cdv A outer s H vs Q E hr hsp
end
/-- a def that may raise, in one bundle -/
def Dx (P : Program) (w : World) (K : PySem.W.Frag) (mg : Str → Option Value) (base : Heap) (x : Str) (k : Nat) (ps : List Str) (sp : Sp) : Prop :=
  ∃ f fd, FnOk P w K mg base (L2.CX P w) k f fd ps sp ∧ mg x = some (.ref f) ∧ PySem.W.keepIn K (.ref f) = true ∧ Binds K fd ps []
theorem DefIn.dx {P : Program} {w : World} {K : PySem.W.Frag} {mg : Str → Option Value} {base : Heap} {x : Str} {st : Stmt} {k : Nat} {ps : List Str} {sp : Sp} (D : DefIn K mg x st ps)
    (ok : ∀ f fd, Fun K x x st f fd → FnOk P w K mg base (L2.CX P w) k f fd ps sp) : Dx P w K mg base x k ps sp :=
  let ⟨f, fd, F, a, b⟩ := D
  ⟨f, fd, ok f fd F, a, F.kp, b⟩
theorem Dx.df {P : Program} {w : World} {K : PySem.W.Frag} {mg : Str → Option Value} {base : Heap} {x : Str} {k : Nat} {ps : List Str} {sp spX : Sp} (D : Dx P w K mg base x k ps spX) (h : ∀ vs H Q E, sp vs H Q E → spX vs H Q E0) : Df P w K mg base x k ps sp :=
  let ⟨f, fd, F, a, b, c⟩ := D
  ⟨f, fd, fn0 F h, a, b, c⟩
/-- the class, made by an __init__ that may raise (its context is None) -/
def BmN (P : Program) (w : World) (K : PySem.W.Frag) (mg : Str → Option Value) (base : Heap) (x : Str) (C : Addr) (k : Nat) (ps : List Str) (sp : Sp) : Prop :=
  ∃ f fd, FnOk P w K mg base (L2N.CX P w) k f fd ps sp ∧ Mk K C f ∧ mg x = some (.ref C) ∧ Binds K fd ps []
theorem InitIn.bmN {P : Program} {w : World} {K : PySem.W.Frag} {mg : Str → Option Value} {base : Heap} {x : Str} {C : Addr} {q : Str} {st : Stmt} {k : Nat} {ps : List Str} {sp : Sp} (D : InitIn K mg x C q st ps)
    (ok : ∀ f fd, Fun K "__init__" q st f fd → FnOk P w K mg base (L2N.CX P w) k f fd ps sp) : BmN P w K mg base x C k ps sp :=
  let ⟨f, fd, F, a, b, c⟩ := D
  ⟨f, fd, ok f fd F, a, b, c⟩
theorem BmN.bm {P : Program} {w : World} {K : PySem.W.Frag} {mg : Str → Option Value} {base : Heap} {x : Str} {C : Addr} {k : Nat} {ps : List Str} {sp spX : Sp} (D : BmN P w K mg base x C k ps spX) (h : ∀ vs H Q E, sp vs H Q E → spX vs H Q E0) : Bm P w K mg base x C k ps sp :=
  let ⟨f, fd, F, a, b, c⟩ := D
  ⟨f, fd, fn0 (fnN F) h, a, b, c⟩

/-! ### calls at known slots -/
section
variable {X : Cx} {CX : CXT} {k : Nat} {f C : Addr} {fd : FuncData} {ps : List Str} {sp : Sp} {E : L2.St → XK} {x : Str} {p pos : Pos} {e : Expr} {es : List Expr} {t : TA}
theorem passN {W : WX} (tk : L2.Takes X W) (σ : L2.St) : PassesAt (L2N.CX X.prog X.w) X σ (WE W σ) := fun pins H s e s' I c => L2.passAt tk σ pins H s e s' I (cxN_cx c)
theorem run_makeS {pins : List (Addr × Obj)} {σ : L2.St} {H : Hp} {s : Shared} {Q : VK} {us : List Value} {vs : List V} (M : Mk X.K C f) (F : FnOk X.prog X.w X.K X.mg X.base CX k f fd ps sp) (hr : Room (k + 1) X.A) (hb : Binds X.K fd ps [])
    (hx : PassesAt CX X σ (E σ)) (I : Inv X pins σ H s) (r : Vals vs us)
    (h : ∀ x dx, H x = none → H dx = none → dx ≠ x → sp (.ref x :: vs) (upd (upd H dx (.own x)) x (.ins C dx [])) (fun v H2 => v = .non ∧ Q (.ref x) H2) (E σ)) :
    wpAny (model X.prog X.w) X.A (call (.ref C) us) (EP X pins σ Q) X.xe s := by
  have hq := h (s.heap.objs.size + 1) s.heap.objs.size (I.hok.fresh (Nat.le_succ _)) (I.hok.fresh (Nat.le_refl _)) (Nat.ne_of_lt (Nat.lt_succ_self _))
  have I2 := Inv.made (C := C) I
  have r2 : Vals (V.ref (s.heap.objs.size + 1) :: vs) (Value.ref (s.heap.objs.size + 1) :: us) := .cons rfl r
  have hl : (Value.ref (s.heap.objs.size + 1) :: us).length = ps.length := by
    have e := r2.length
    rw [F.len _ _ _ _ hq] at e
    exact e.symm
  have b := hb _ (Value.ref (s.heap.objs.size + 1) :: us) I2.kIn (by rw [List.append_nil]; exact hl)
  rw [List.append_nil] at b
  refine wpAny_call (make_map (f := f) I.kIn M.makes M.init (beq_iff_eq.mp M.fn) (codeAny_mono (F.run _ X.stack _ _ ⟨Value.ref (s.heap.objs.size + 1) :: us, []⟩ (Value.ref (s.heap.objs.size + 1) :: us) _ _ (E σ) (hr.make C us [])
    (I2.env0.make C us []) b r2 hq) fun r s' hq' => ?_))
  cases r with
  | error e => exact hx pins _ _ e s' I2 hq'
  | ok fl =>
    cases fl with
    | ret u =>
      obtain ⟨v, H', I3, rv, ev, q3⟩ := I2.after hq'
      subst ev
      exact ⟨rv, ⟨V.ref (s.heap.objs.size + 1), H', I3, rfl, q3⟩⟩
    | next => exact False.elim hq'
    | brk => exact False.elim hq'
    | cont => exact False.elim hq'
def tMakeS (C : Addr) (sp : Sp) (E : L2.St → XK) (t : TA) : TE := fun σ H Q => t σ H fun vs H1 => ∀ x dx, H1 x = none → H1 dx = none → dx ≠ x →
  sp (.ref x :: vs) (upd (upd H1 dx (.own x)) x (.ins C dx [])) (fun v H2 => v = .non ∧ Q (.ref x) H2) (E σ)
theorem pe_mkS (D : BmN X.prog X.w X.K X.mg X.base x C k ps sp) (hr : Room (k + 1) X.A) (hx : ∀ σ, PassesAt (L2N.CX X.prog X.w) X σ (E σ)) (ha : PA X (e :: es) t) (hg : Gl X x := by rfl)
    (hd : (x == ("__debug__" : Str)) = false := by decide) (he : starEach (e :: es) X.env = (false, eval e X.env) :: starEach es X.env := by rfl) (hpl : (backTo pos (starEach es X.env)).any (·.1) = false := by rfl) :
    PE X (.Call (.Name x p) (e :: es) [] pos) (tMakeS C sp E t) := by
  obtain ⟨f, fd, F, M, hm, hb⟩ := D
  refine ⟨fun pins s σ H Q I h => ?_⟩
  refine wpAny_Call_Name_kw (ld_glob I hg hm ?_ hd)
  refine PySem.W.callWith_K (h₀ := X.base) I.ok.mod.kin M.kp (thn (ha.run pos pins s σ H _ I h) fun us s1 ⟨vs, H1, I1, r, q⟩ => ⟨I1.kIn, ?_⟩) he hpl
  exact run_makeS M F hr hb (hx σ) I1 r q
theorem pe_clS (D : Dx X.prog X.w X.K X.mg X.base x k ps sp) (hr : Room k X.A) (hx : ∀ σ, PassesAt (L2.CX X.prog X.w) X σ (E σ)) (ha : PA X (e :: es) t) (hg : Gl X x := by rfl)
    (hd : (x == ("__debug__" : Str)) = false := by decide) (he : starEach (e :: es) X.env = (false, eval e X.env) :: starEach es X.env := by rfl) (hpl : (backTo pos (starEach es X.env)).any (·.1) = false := by rfl) :
    PE X (.Call (.Name x p) (e :: es) [] pos) (tCallS sp E t) := by
  obtain ⟨f, fd, F, hm, hk, hb⟩ := D
  exact pe_callS F hr hg hm hk hb hx ha hd he hpl
end

/-! ### a def that is handed the caught error -/
structure FnE (P : Program) (w : World) (K : PySem.W.Frag) (mg : Str → Option Value) (base : Heap) (k : Nat) (f : Addr) (fd : FuncData) (ps : List Str) (Zp : Addr × Obj → Prop) (sp : Addr → Sp) : Prop where
  len : ∀ a vs H Q E, sp a vs H Q E → vs.length = ps.length
  run : ∀ (A : Around) (outer : List Env) (s : Shared) (H : Hp) (args : Args) (us : List Value) (vs : List V) (Q : VK) (p : Addr × Obj), L2H.RoomH k A → L2H.PinOk outer H s p → Zp p → Env0 P w K mg base A outer s H → BindsTo s fd args (ps.zip us) → Vals vs us → sp p.1 vs H Q E0 →
    codeAny (model P w) A (.call (.ref f) args) (CR CX0 outer P w H s Q E0) s
theorem fn_ofE {P : Program} {w : World} {K : PySem.W.Frag} {mg : Str → Option Value} {base : Heap} {k : Nat} {f : Addr} {fd : FuncData} {x qual : Str} {st : Stmt} {N ps : List Str} {Zp : Addr × Obj → Prop} {sp : Addr → Sp} (F : Fun K x qual st f fd) (S : FnScope N ps (defScope st))
    (len : ∀ a vs H Q E, sp a vs H Q E → vs.length = ps.length)
    (hbody : ∀ (cdv : Value) (A : Around) (outer : List Env) (s : Shared) (H : Hp) (vs : List V) (Q : VK) (p : Addr × Obj), Zp p → L2H.RoomH k (A.deeper (envOfC qual (defScope st) s.heap.objs.size f cdv)) → sp p.1 vs H Q E0 →
      ∃ t, PSs (L2H.cxH CX0 P w K mg base N qual (defScope st) f cdv A outer s H E0 p) (defBody st) t ∧ t { nx := fun _ H' => Q .non H', rt := Q } (L2.start N vs) H) :
    FnE P w K mg base (k + 1) f fd ps Zp sp := by
  obtain ⟨oc, od, dV, doc, pm, an, cdv, ct, osl, rfl, lk, hcd⟩ := F.ex
  refine ⟨len, fun A outer s H args us vs Q p hr hpin hz e0 hb r hsp => ?_⟩
  have hl := len _ _ _ _ _ hsp
  have KX : K.In s.heap := e0.mod.kin.keeps fun b o e => (e0.bs b o e).1
  have lim : s.heap.NoLimit := e0.mod.nolimit.keeps fun b o e => (e0.bs b o e).1
  have hkind : ∀ y ∈ ps.zip us, (defScope st).names.lookup y.1 = some .local ∨ ((defScope st).names.lookup y.1 = some .cell ∧ ((cellsFrom (s.heap.objs.size + 1) (defScope st).names []).lookup y.1).isSome = true) := fun ⟨n, v⟩ hy => by
    rcases S.par n (List.of_mem_zip hy).1 with q | q
    · exact .inl q
    · exact .inr ⟨q, PySem.W.cellsFrom_some _ _ _ (.inl q)⟩
  refine codeAny_call_function hr.depth (KX _ _ lk) rfl S.co S.gen rfl (PySem.W.codeRec_of KX hcd) (hb _ _ _ _ ?_)
  refine wpAny_newFunctionEnv_cells S.kind hkind fun env he s1 x => ?_
  subst he
  refine ⟨lim.keeps x.toInCall.keep, codeAny_func ?_⟩
  obtain ⟨t, ht, hq⟩ := hbody cdv A outer s H vs Q p hz (hr.deeper _) hsp
  have I : Inv (L2H.cxH CX0 P w K mg base N qual (defScope st) f cdv A outer s H E0 p) [] (L2.start N vs) H s1 := L2H.inv_startH S hpin e0 hl r x
  refine wpAny_mono (ht.run [] s1 (L2.start N vs) H _ I hq) (fun fl s' hs => ?_) fun e s' hs => hs
  have fin : ∀ {σ' : L2.St} {H' : Hp} {v : V} {u : Value}, Inv (L2H.cxH CX0 P w K mg base N qual (defScope st) f cdv A outer s H E0 p) [] σ' H' s' → RelV v u → Q v H' → CE outer P w H s Q u s' :=
    fun {σ' H' v u} J rv q => ⟨v, H', J.os, J.bare, J.base, J.hok, rv, q⟩
  cases fl with
  | ret u =>
    obtain ⟨v, σ', H', J, rv, q⟩ := hs
    exact fin J rv q
  | next =>
    obtain ⟨σ', H', J, q⟩ := hs
    exact fin (v := V.non) (u := Value.none) J rfl q
  | brk =>
    obtain ⟨_, _, _, q⟩ := hs
    exact False.elim q
  | cont =>
    obtain ⟨_, _, _, q⟩ := hs
    exact False.elim q
def De (P : Program) (w : World) (K : PySem.W.Frag) (mg : Str → Option Value) (base : Heap) (x : Str) (k : Nat) (ps : List Str) (Zp : Addr × Obj → Prop) (sp : Addr → Sp) : Prop :=
  ∃ f fd, FnE P w K mg base k f fd ps Zp sp ∧ mg x = some (.ref f) ∧ PySem.W.keepIn K (.ref f) = true ∧ Binds K fd ps []
theorem DefIn.de {P : Program} {w : World} {K : PySem.W.Frag} {mg : Str → Option Value} {base : Heap} {x : Str} {st : Stmt} {k : Nat} {ps : List Str} {Zp : Addr × Obj → Prop} {sp : Addr → Sp} (D : DefIn K mg x st ps)
    (ok : ∀ f fd, Fun K x x st f fd → FnE P w K mg base k f fd ps Zp sp) : De P w K mg base x k ps Zp sp :=
  let ⟨f, fd, F, a, b⟩ := D
  ⟨f, fd, ok f fd F, a, F.kp, b⟩
theorem pe_clE {X : Cx} {x : Str} {k : Nat} {ps : List Str} {Zp : Addr × Obj → Prop} {sp : Addr → Sp} {a : Addr} {oe : Obj} {q pos : Pos} {e : Expr} {es : List Expr} {t : TA} (D : De X.prog X.w X.K X.mg X.base x k ps Zp sp) (hr : L2H.RoomH k X.A) (hp : (a, oe) ∈ X.pn) (hz : Zp (a, oe))
    (ha : PA X (e :: es) t) (hg : Gl X x := by rfl) (hdb : (x == ("__debug__" : Str)) = false := by decide) (he : starEach (e :: es) X.env = (false, eval e X.env) :: starEach es X.env := by rfl) (hpl : (backTo pos (starEach es X.env)).any (·.1) = false := by rfl) :
    PE X (.Call (.Name x q) (e :: es) [] pos) (fun σ H Q => t σ H fun vs H1 => sp a vs H1 Q E0) := by
  obtain ⟨f, fd, F, hm, hk, hb⟩ := D
  refine ⟨fun pins s σ H Q I h => ?_⟩
  refine wpAny_Call_Name_kw (ld_glob I hg hm ?_ hdb)
  refine PySem.W.callWith_K (h₀ := X.base) I.ok.mod.kin hk (thn (ha.run pos pins s σ H _ I h) fun us s1 ⟨vs, H1, I1, r, q⟩ => ⟨I1.kIn, ?_⟩) he hpl
  have hl : us.length = ps.length := by rw [← r.length]; exact F.len _ _ _ _ _ q
  have b := hb s1 us I1.kIn (by rw [List.append_nil]; exact hl)
  rw [List.append_nil] at b
  have P1 := I1.pin (a, oe) (List.mem_append_left _ hp)
  have hpin : L2H.PinOk X.stack H1 s1 (a, oe) := ⟨P1.1, P1.2.1, fun hm => (List.mem_cons.mp (I1.stkSub a hm)).elim P1.2.2.1 P1.2.2.2.1, P1.2.2.2.2⟩
  refine wpAny_call (codeAny_mono (F.run X.A X.stack s1 H1 ⟨us, []⟩ us vs Q (a, oe) hr hpin hz I1.env0 b r q) fun r s' hq => ?_)
  cases r with
  | error e => exact False.elim hq
  | ok fl =>
    cases fl with
    | ret u => exact I1.after hq
    | next => exact False.elim hq
    | brk => exact False.elim hq
    | cont => exact False.elim hq
/-- isinstance(e, c), e an error that is kept -/
theorem call_isP {X : Cx} {a D : Addr} {oe : Obj} (K : PySem.W.Frag) (hK : X.K = K) (hp : (a, oe) ∈ X.pn) (C : ExcC K D) (hz : Zc (.ref D) none oe) (hf : ∃ vs, oe.data = .fields vs) : CallR X (.builtin "isinstance") (rIsE K D a) := by
  subst hK
  intro pins s σ H xs us Q I r h
  obtain ⟨c, cv, b, rfl, hcv, e, q⟩ := h
  cases r with
  | cons rx rr =>
    cases rr with
    | cons rt rr =>
      cases rr
      cases rx
      have ec := hcv _ rt
      subst ec
      obtain ⟨hget, _⟩ := I.pin (a, oe) (List.mem_append_left _ hp)
      obtain ⟨vs, hv⟩ := hf
      have J : PySem.W.InstAt s.heap a oe D none := by
        obtain ⟨oc, od, oda, osl⟩ := oe
        obtain ⟨h1, h2⟩ := hz
        dsimp only at h1 h2 hv
        subst h1 h2 hv
        exact ⟨hget, rfl, rfl, trivial⟩
      exact PySem.W.kia_one (PySem.W.handS_kitx_exc C.hg C.hk C.hs C.hd C.ha C.hn C.ht C.hm) I.kIn J e (fun z => nomatch z) fun tk => ⟨.bl b, H, I.kept (t' := tk) fun _ _ z => z, rfl, q⟩

/-! ### the classes -/
structure Ec (K : PySem.W.Frag) (mg : Str → Option Value) (x : Str) (C : Addr) : Prop where
  g : mg x = some (.ref C)
  x : PySem.W.excIn K C [.type "ValueError", .type "Exception", .type "BaseException", .type "object"] "ValueError.__new__" = true
  k : PySem.W.keepIn K (.ref C) = true
  b : PySem.W.subIn K (.ref C) (.type "BaseException") = some true
  t : PySem.W.typeIn K (.ref C) = some (.type "type")
  d : PySem.W.hasDictIn K C = true
theorem ec_mk {K : PySem.W.Frag} {h : Heap} {mg : Str → Option Value} {x : Str} {C : Addr} (X : K.In h) (G : h.Ns mainGlobals mg) (a : PySem.W.nsIn K mainGlobals x = some (some (.ref C)))
    (e : PySem.W.excIn K C [.type "ValueError", .type "Exception", .type "BaseException", .type "object"] "ValueError.__new__" = true) (k : PySem.W.keepIn K (.ref C) = true) (b : PySem.W.subIn K (.ref C) (.type "BaseException") = some true)
    (t : PySem.W.typeIn K (.ref C) = some (.type "type")) (d : PySem.W.hasDictIn K C = true) : Ec K mg x C := ⟨PySem.W.mg_of X G a, e, k, b, t, d⟩
theorem Ec.exm {K : PySem.W.Frag} {mg : Str → Option Value} {x : Str} {C D : Addr} {b : Bool} (E : Ec K mg x C) (h : PySem.W.subIn K (.ref D) (.ref C) = some b) : PySem.W.exmOne K (.ref D) (.ref C) = some b := PySem.W.exm_ref E.b E.d E.t h
theorem Ec.names {K : PySem.W.Frag} {mg : Str → Option Value} {x : Str} {C : Addr} (E : Ec K mg x C) {X : Cx} (hm : X.mg = mg) (hg : Gl X x := by rfl) (hd : (x == ("__debug__" : Str)) = false := by decide) : Names X x (.ref C) := ⟨hg, hd, .inl (by rw [hm]; exact E.g)⟩
theorem roomMark {k : Nat} {A : Around} (r : Room k A) (h : Option Value) : L2H.RoomH k (A.mark h) := ⟨r.dp, r.un⟩
theorem pe_ec {X : Cx} {K : PySem.W.Frag} {mg : Str → Option Value} {x : Str} {C : Addr} {pos : Pos} (E : Ec K mg x C) (hm : X.mg = mg) (hg : Gl X x := by rfl) (hd : (x == ("__debug__" : Str)) = false := by decide) : PE X (.Name x pos) (tC (.ref C)) :=
  pe_glob (v := .ref C) hg (by rw [hm]; exact E.g) rfl hd
theorem excC_mk {K : PySem.W.Frag} {D : Addr} (hg : PySem.W.findIn K (.ref D) "__getattribute__" = some (some (.builtin "BaseException.__getattribute__"))) (hk : PySem.W.findIn K (.ref D) "__getattr__" = some none) (hs : PySem.W.subIn K (.ref D) (.type "BaseException") = some true)
    (hd : PySem.W.hasDictIn K D = true) (ha : PySem.W.findIn K (.ref D) "__class__" = some (some (.builtin "object.__class__"))) (hn : PySem.W.specialIn K (.builtin "object.__class__") "__get__" = some (some (.builtin "getset_descriptor.__get__")))
    (ht : PySem.W.takesIn K (.builtin "object.__class__") = some true) (hm : PySem.W.mroIn K D (.type "object") = some true) : ExcC K D := ⟨hg, hk, hs, hd, ha, hn, ht, hm⟩
/-- the error classes of the marks, in their order -/
structure Marks (K : PySem.W.Frag) (cF c0 c1 c2 c3 c4 c5 D : Addr) (n : Nat) : Prop where
  ex : ExcC K D
  kf : PySem.W.subIn K (.ref D) (.ref cF) = some true
  lt : n < 6
  k0 : PySem.W.kitOne K (.ref D) (.ref c0) = some (n == 0)
  k1 : PySem.W.kitOne K (.ref D) (.ref c1) = some (n == 1)
  k2 : PySem.W.kitOne K (.ref D) (.ref c2) = some (n == 2)
  k3 : PySem.W.kitOne K (.ref D) (.ref c3) = some (n == 3)
  k4 : PySem.W.kitOne K (.ref D) (.ref c4) = some (n == 4)
  k5 : PySem.W.kitOne K (.ref D) (.ref c5) = some (n == 5)
  kv : PySem.W.kitOne K (.ref D) (.type "ValueError") = some true
def ZE (D : Addr) : Addr × Obj → Prop := fun p => Zc (.ref D) none p.2 ∧ ∃ vs, p.2.data = .fields vs
/-- the classes, found by their names -/
structure Ers (K : PySem.W.Frag) (mg : Str → Option Value) (cF c0 c1 c2 c3 c4 c5 : Addr) : Prop where
  FillError : Ec K mg "FillError" cF
  BadSides : Ec K mg "BadSides" c0
  BadGap : Ec K mg "BadGap" c1
  NotOneGap : Ec K mg "NotOneGap" c2
  HasGaps : Ec K mg "HasGaps" c3
  TooMany : Ec K mg "TooMany" c4
  NoText : Ec K mg "NoText" c5
theorem marks_mk {K : PySem.W.Frag} {cF c0 c1 c2 c3 c4 c5 D : Addr} {n : Nat} (ex : ExcC K D) (kf : PySem.W.subIn K (.ref D) (.ref cF) = some true) (lt : n < 6) (k0 : PySem.W.kitOne K (.ref D) (.ref c0) = some (n == 0)) (k1 : PySem.W.kitOne K (.ref D) (.ref c1) = some (n == 1))
    (k2 : PySem.W.kitOne K (.ref D) (.ref c2) = some (n == 2)) (k3 : PySem.W.kitOne K (.ref D) (.ref c3) = some (n == 3)) (k4 : PySem.W.kitOne K (.ref D) (.ref c4) = some (n == 4)) (k5 : PySem.W.kitOne K (.ref D) (.ref c5) = some (n == 5)) (kv : PySem.W.kitOne K (.ref D) (.type "ValueError") = some true) :
    Marks K cF c0 c1 c2 c3 c4 c5 D n := ⟨ex, kf, lt, k0, k1, k2, k3, k4, k5, kv⟩
def marksL (n : Nat) : List Bool := [n == 0, n == 1, n == 2, n == 3, n == 4, n == 5, false]
theorem marks_range (n : Nat) (h : n < 6) : (List.range 7).map (fun k : Nat => decide ((k : Int) = (n : Int))) = marksL n := by
  match n, h with
  | 0, _ => decide
  | 1, _ => decide
  | 2, _ => decide
  | 3, _ => decide
  | 4, _ => decide
  | 5, _ => decide
theorem marks_pair (H : Hp) (n : Nat) (h : n < 6) : Paired (BoolV H) ((List.range 7).map fun k : Nat => V.bl (decide (V.int ((k : Nat) : Int) = V.int (n : Int)))) (marksL n) := by
  have e : ((List.range 7).map fun k : Nat => V.bl (decide (V.int ((k : Nat) : Int) = V.int (n : Int)))) = (marksL n).map V.bl := by
    rw [← marks_range n h, List.map_map]
    refine List.map_congr_left fun k _ => ?_
    show V.bl (decide (V.int (k : Int) = V.int (n : Int))) = V.bl (decide ((k : Int) = (n : Int)))
    rw [dec_int]
    exact congrArg V.bl (Bool.beq_eq_decide_eq _ _)
  rw [e]
  clear e h
  generalize marksL n = l
  induction l with
  | nil => exact .nil
  | cons a l ih => exact .cons rfl ih
theorem marks_ne {i : Nat} (h : i < 6) : ([] : List Bool) ≠ marksL i := by
  intro z
  cases z
/-- the marks of a caught error: its class is told behind -/
theorem pe_clM (P : Program) (Wd : World) (K : PySem.W.Frag) (mg : Str → Option Value) (base : Heap) (k : Nat) (ps : List Str) {X : Cx} {x : Str} {a : Addr} {oe : Obj} {cls : Value} {d : Option Addr} {q pos : Pos} {e : Expr} {es : List Expr} {t : TA} (hX : X.prog = P ∧ X.w = Wd ∧ X.K = K ∧ X.mg = mg ∧ X.base = base)
    (hr : L2H.RoomH k X.A) (hp : (a, oe) ∈ X.pn) (hz : Zc cls d oe) (hf : ∃ vs, oe.data = .fields vs)
    (ha : PA X (e :: es) t) (hg : Gl X x := by rfl) (hdb : (x == ("__debug__" : Str)) = false := by decide) (he : starEach (e :: es) X.env = (false, eval e X.env) :: starEach es X.env := by rfl) (hpl : (backTo pos (starEach es X.env)).any (·.1) = false := by rfl) :
    PE X (.Call (.Name x q) (e :: es) [] pos) (fun σ H Q => ∃ (D : Addr) (sp : Addr → Sp), cls = .ref D ∧ d = none ∧ De P Wd K mg base x k ps (ZE D) sp ∧ t σ H fun vs H1 => sp a vs H1 Q E0) := by
  obtain ⟨rfl, rfl, rfl, rfl, rfl⟩ := hX
  refine ⟨fun pins s σ H Q I h => ?_⟩
  obtain ⟨D, sp, rfl, rfl, De, h⟩ := h
  exact (pe_clE De hr hp ⟨hz, hf⟩ ha hg hdb he hpl).run pins s σ H Q I h
/-- slices -/
theorem cutV_take (xs : List V) {k : Nat} (h : k ≤ xs.length) : cutV xs none (some (k : Int)) = xs.take k := by
  unfold cutV
  rw [HT.sIx_none, HT.sIx_nat, List.drop_zero, Nat.sub_zero, Nat.min_eq_left h]
theorem cutV_drop (xs : List V) {k : Nat} (h : k ≤ xs.length) : cutV xs (some (k : Int)) none = xs.drop k := by
  unfold cutV
  rw [HT.sIx_none, HT.sIx_nat, Nat.min_eq_left h]
  exact List.take_of_length_le (by rw [List.length_drop]; exact Nat.le_refl _)
theorem pair_take {α β : Type} {F : α → β → Prop} : ∀ {l : List α} {m : List β} (k : Nat), Paired F l m → Paired F (l.take k) (m.take k)
  | _, _, 0, _ => by rw [List.take_zero, List.take_zero]; exact .nil
  | _, _, k + 1, .nil => .nil
  | _, _, k + 1, .cons r t => by rw [List.take_succ_cons, List.take_succ_cons]; exact .cons r (pair_take k t)
theorem pair_drop {α β : Type} {F : α → β → Prop} : ∀ {l : List α} {m : List β} (k : Nat), Paired F l m → Paired F (l.drop k) (m.drop k)
  | _, _, 0, h => by rw [List.drop_zero, List.drop_zero]; exact h
  | _, _, k + 1, .nil => .nil
  | _, _, k + 1, .cons r t => by rw [List.drop_succ_cons, List.drop_succ_cons]; exact pair_drop k t
theorem bt_ValueError : bootBuiltins "ValueError" = some (.type "ValueError") := by decide +kernel
end CF

set_option Elab.async false
set_option linter.all false
set_option maxRecDepth 100000
set_option maxHeartbeats 4000000
/-! CFBoardX: Board.__init__ with its refusals. -/
namespace CF
open PySem PySem.Spec PyProof.Rows L2
def spInitX (C cS cG : Addr) : Sp := fun vs H Q E => ∃ (p dx ga : Addr) (w h : Int) (g : List Cell), vs = [.ref p, .int w, .int h, .ref ga] ∧ H p = some (.ins C dx []) ∧ LsA CellV H ga g ∧
  (Sides w h → g.Nodup → InB w h g → ∀ H' : Hp, BoardAt C H' p w h g → But p H H' → Q .non H') ∧ (¬ Sides w h → ∀ H' : Hp, But p H H' → E (.ref cS) none H') ∧ (Sides w h → ¬ (g.Nodup ∧ InB w h g) → ∀ H' : Hp, But p H H' → E (.ref cG) none H')
theorem spInit_of {C cS cG : Addr} : ∀ vs H Q E, spInit C vs H Q E → spInitX C cS cG vs H Q E0 := fun vs H Q E ⟨p, dx, ga, w, h, g, e, hp, hg, sd, nd, ib, k⟩ =>
  ⟨p, dx, ga, w, h, g, e, hp, hg, fun _ _ _ => k, fun z => absurd sd z, fun _ z => absurd ⟨nd, ib⟩ z⟩
section
variable {P : Program} {Wd : World} {K : PySem.W.Frag} {mg : Str → Option Value} {base : Heap} {C cS cG : Addr}
theorem ok_initX (T : BTx K mg C) (E_BadSides : Ec K mg "BadSides" cS) (E_BadGap : Ec K mg "BadGap" cG) (f : Addr) (fd : FuncData) (F : Fun K "__init__" "Board.__init__" s_B_init f fd) : FnOk P Wd K mg base (L2N.CX P Wd) 1 f fd p_B_init (spInitX C cS cG) := by
  refine okN F sc_B_init (fun vs H Q E h => ?_) (fun cdv A outer s H vs Q E hr h => ?_)
  · obtain ⟨p, dx, ga, w, h, g, rfl, _⟩ := h
    rfl
  · obtain ⟨p, dx, ga, w, h, g, rfl, hp, hg, k, kS, kG⟩ := h
    have hu := hu_of hr
    refine ⟨_,
      (pss_cons (ps_if (PW.pt (pw_or (pt_cmpR op_lt (L2.pv 1) pe_int (nomark _)) (pw_or (pt_cmpR op_gt (L2.pv 1) (pe_gint T.gMOST) (nomark _)) (pw_or (pt_cmpR op_lt (L2.pv 2) pe_int (nomark _)) (pw_or1 (pt_cmpR op_gt (L2.pv 2) (pe_gint T.gMOST) (nomark _)))))))
        (pss_one (L2N.ps_raise rfl (L2N.takes_of rfl rfl rfl rfl) (L2N.pmk_own PySem.F.excBase_ValueError E_BadSides.x E_BadSides.g E_BadSides.k (raises_own E_BadSides.b E_BadSides.t) (by rfl))))
        pss_nil)
      (pss_cons (ps_fld (L2.pv 0) (L2.pv 1) (by rfl))
      (pss_cons (ps_fld (L2.pv 0) (L2.pv 2) (by rfl))
      (pss_cons (ps_fld (L2.pv 0) pe_dnewT (by rfl))
      (pss_one (ps_for (L2.passes_of rfl) (by rfl) (pi_listK K (by rfl) (L2.pv 3)) (pg_tupK K 2 (by rfl) (by rfl) (pgs_cons (pg_name (i := 4) sc_B_init.nd rfl (by first | exact Or.inl rfl | exact Or.inr rfl)) (pgs_cons (pg_name (i := 5) sc_B_init.nd rfl (by first | exact Or.inl rfl | exact Or.inr rfl)) pgs_nil)) (by rfl) (by rfl))
        (pss_cons (ps_if (PW.pt (pw_or (pt_cmpR op_lt (L2.pv 4) pe_int (nomark _)) (pw_or (pt_cmpR op_ge (L2.pv 4) (L2.pv 1) (nomark _)) (pw_or (pt_cmpR op_lt (L2.pv 5) pe_int (nomark _)) (pw_or (pt_cmpR op_ge (L2.pv 5) (L2.pv 2) (nomark _)) (pw_or1 (pt_cmp (pc_din (by exact hu) (pe_tup (pa_cons (L2.pv 4) (pa_cons (L2.pv 5) pa_nil))) (pe_fldK K (by rfl) (L2.pv 0) (by rfl))))))))))
           (pss_one (L2N.ps_raise rfl (L2N.takes_of rfl rfl rfl rfl) (L2N.pmk_own PySem.F.excBase_ValueError E_BadGap.x E_BadGap.g E_BadGap.k (raises_own E_BadGap.b E_BadGap.t) (by rfl))))
           pss_nil)
         (pss_one (ps_dput (by exact hu) (pe_fldK K (by rfl) (L2.pv 0) (by rfl)) (pe_tup (pa_cons (L2.pv 4) (pa_cons (L2.pv 5) pa_nil))) pe_bl rfl))))))))), ?_⟩
    have stay : But p H H := fun _ _ _ e => e
    refine ⟨_, rfl, _, _, rfl, rfl, _, rfl, ?_⟩
    refine iteD (fun z => kS (fun s => by have := s.1; omega) _ stay) (fun s1 => ?_)
    refine ⟨_, rfl, _, _, rfl, rfl, _, rfl, ?_⟩
    refine iteD (fun z => kS (fun s => by have := s.2.1; omega) _ stay) (fun s2 => ?_)
    refine ⟨_, rfl, _, _, rfl, rfl, _, rfl, ?_⟩
    refine iteD (fun z => kS (fun s => by have := s.2.2.1; omega) _ stay) (fun s3 => ?_)
    refine ⟨_, rfl, _, _, rfl, rfl, _, rfl, ?_⟩
    refine iteD (fun z => kS (fun s => by have := s.2.2.2; omega) _ stay) (fun s4 => ?_)
    have sd : Sides w h := ⟨by omega, by omega, by omega, by omega⟩
    have l1 := putF_len "wide" (.int w) []
    have l2 := putF_len "high" (.int h) (putF "wide" (.int w) [])
    have l3 := putF_len "missing" .non (putF "high" (.int h) (putF "wide" (.int w) []))
    have z0 : ([] : List (Str × V)).length = 0 := rfl
    refine ⟨_, rfl, _, rfl, p, C, dx, [], rfl, hp, T.cl, T.nW, (by omega), ?_⟩
    refine ⟨_, rfl, _, rfl, p, C, dx, _, rfl, upd_same, T.cl, T.nH, (by omega), ?_⟩
    intro d hd
    have npd : p ≠ d := ne_of_none (H := upd (upd H p _) p _) upd_same hd
    have hd0 : H d = none := by rw [upd_ne npd.symm, upd_ne npd.symm] at hd; exact hd
    refine ⟨_, rfl, p, C, dx, _, rfl, (by rw [upd_ne npd]; exact upd_same), T.cl, T.nM, (by omega), ?_⟩
    obtain ⟨vs, hga, pg⟩ := hg
    have npg : ga ≠ p := ne_of hga hp (by intro z; cases z)
    have ndg : ga ≠ d := ne_of_none hga hd0
    refine ⟨_, rfl, ga, rfl, ⟨vs, SqL.of (by rw [upd_ne npg, upd_ne ndg, upd_ne npg, upd_ne npg]; exact hga)⟩,
      for_list (K := K) (a := ga) (xs := vs) (fun i σ H2 => ((g.take i).Nodup ∧ InB w h (g.take i)) ∧ ∃ v4 v5 : Option V, σ = [some (.ref p), some (.int w), some (.int h), some (.ref ga), v4, v5] ∧ H2 p = some (.ins C dx (bF w h d)) ∧ H2 d = some (.dT ((g.take i).map gE)) ∧ But p H H2) ?_ ?_ ?_ ?_⟩
    · refine ⟨⟨by simp, fun c hc => by simp at hc⟩, none, none, rfl, upd_same, by rw [upd_ne npd.symm, upd_same]; rfl, fun b o hb e => ?_⟩
      rw [upd_ne hb, upd_ne (ne_of_none e hd0), upd_ne hb, upd_ne hb]
      exact e
    · rintro i σ H2 _ ⟨_, v4, v5, _, _, _, kb⟩
      exact SqL.of (kb _ _ npg hga)
    · rintro i y σ H2 hi ⟨⟨ndi, ibi⟩, v4, v5, rfl, hp2, hd2, kb⟩
      obtain ⟨c, hc, t, rfl, ht⟩ := getE pg hi
      have npt : t ≠ p := ne_of ht hp (by intro z; cases z)
      have ht2 := kb _ _ npt ht
      have hcm : c ∈ g := List.mem_of_getElem? hc
      have hlt := (List.getElem?_eq_some_iff.mp hc).1
      have etk : g.take (i + 1) = g.take i ++ [c] := by rw [List.take_add_one, hc]; rfl
      refine ⟨t, _, rfl, SqT.of ht2, rfl, _, _, rfl, _, _, rfl, rfl, ?_⟩
      refine ⟨_, rfl, _, _, rfl, rfl, _, rfl, ?_⟩
      refine iteD (fun z => kG sd (fun s => by have := s.2 c hcm; omega) _ kb) (fun b1 => ?_)
      refine ⟨_, rfl, _, rfl, _, _, rfl, rfl, _, rfl, ?_⟩
      refine iteD (fun z => kG sd (fun s => by have := s.2 c hcm; omega) _ kb) (fun b2 => ?_)
      refine ⟨_, rfl, _, _, rfl, rfl, _, rfl, ?_⟩
      refine iteD (fun z => kG sd (fun s => by have := s.2 c hcm; omega) _ kb) (fun b3 => ?_)
      refine ⟨_, rfl, _, rfl, _, _, rfl, rfl, _, rfl, ?_⟩
      refine iteD (fun z => kG sd (fun s => by have := s.2 c hcm; omega) _ kb) (fun b4 => ?_)
      refine ⟨_, rfl, _, rfl, (by show 2 ≤ sizeLine; decide), fun q hq => ?_⟩
      have npq : p ≠ q := ne_of_none hp2 hq
      have ndq : d ≠ q := ne_of_none hd2 hq
      have kbq : But p H (upd H2 q (.tup [.int c.1, .int c.2])) := kb.trans (But.of (sameNew hq))
      refine ⟨_, rfl, p, C, dx, _, _, rfl, (by rw [upd_ne npq]; exact hp2), T.cl, T.nM, bF_missing w h d, d, _, rfl, DGet.t (k := ck c) (by rw [upd_ne ndq]; exact hd2) upd_same, _, rfl, ?_⟩
      rw [valV_gE_some]
      refine iteD (fun hin => kG sd (fun s => ?_) _ kbq) (fun hnot => ?_)
      · have h1 : (g.take (i + 1)).Nodup := s.1.sublist (List.take_sublist _ _)
        rw [etk] at h1
        exact (List.nodup_append.mp h1).2.2 c hin c (by simp) rfl
      have ndi' : (g.take (i + 1)).Nodup := by
        rw [etk]
        refine List.nodup_append.mpr ⟨ndi, by simp, fun a ha b hb e => ?_⟩
        have : b = c := by simpa using hb
        subst this
        subst e
        exact hnot ha
      have ibi' : InB w h (g.take (i + 1)) := by
        rw [etk]
        intro x hx
        rcases List.mem_append.mp hx with hx | hx
        · exact ibi x hx
        · have : x = c := by simpa using hx
          subst this
          omega
      refine ⟨_, rfl, p, C, dx, _, _, rfl, (by rw [upd_ne npq]; exact hp2), T.cl, T.nM, bF_missing w h d, _, rfl, _, rfl, (by show 2 ≤ sizeLine; decide), fun q2 hq2 => ?_⟩
      have npq2 : p ≠ q2 := ne_of_none (H := upd H2 q _) (by rw [upd_ne npq]; exact hp2) hq2
      have ndq2 : d ≠ q2 := ne_of_none (H := upd H2 q _) (by rw [upd_ne ndq]; exact hd2) hq2
      have hlen : ((g.take i).map gE).length ≤ 256 := by
        have := inb_length sd ndi ibi
        rw [List.length_map]
        omega
      refine ⟨d, _, rfl, DPut.t (k := ck c) (by rw [upd_ne ndq2, upd_ne ndq]; exact hd2) upd_same (Nat.lt_of_le_of_lt hlen (by decide)), ?_⟩
      refine ⟨⟨ndi', ibi'⟩, _, _, rfl, (by rw [upd_ne npd, upd_ne npq2, upd_ne npq]; exact hp2), (by rw [upd_same, putK_gE hnot, etk]), fun b o hb e => ?_⟩
      have h1 := kb b o hb e
      have hbd : b ≠ d := ne_of_none e hd0
      have h2 : upd H2 q (.tup [.int c.1, .int c.2]) b = some o := by rw [upd_ne (ne_of_none h1 hq)]; exact h1
      rw [upd_ne hbd, upd_ne (ne_of_none h2 hq2)]
      exact h2
    · rintro σ H2 ⟨⟨nd, ib⟩, v4, v5, rfl, hp2, hd2, kb⟩
      have e : g.take vs.length = g := List.take_of_length_le (by rw [Paired.length pg]; exact Nat.le_refl _)
      rw [e] at hd2 nd ib
      exact k sd nd ib H2 ⟨⟨dx, d, hp2, hd2⟩, sd, nd, ib⟩ kb
end
end CF

set_option Elab.async false
set_option linter.all false
set_option maxRecDepth 100000
set_option maxHeartbeats 4000000
/-! CFTxt: texts: what they are cut into, the plain text of a board. -/
namespace CF
open PySem PySem.Spec PyProof.Rows L2
def strOf (l : List Nat) : Str := ⟨l.toArray⟩
theorem strOf_list (l : List Nat) : (strOf l).cps.toList = l := rfl
theorem strOf_length (l : List Nat) : (strOf l).length = l.length := by show l.toArray.size = _; simp
theorem strOf_append (a b : List Nat) : strOf a ++ strOf b = strOf (a ++ b) := by
  show (⟨a.toArray ++ b.toArray⟩ : Str) = ⟨(a ++ b).toArray⟩
  simp
theorem strOf_inj {a b : List Nat} (h : strOf a = strOf b) : a = b := by
  have := congrArg (fun s : Str => s.cps.toList) h
  exact this
theorem strOf_of (s : Str) : strOf s.cps.toList = s := by
  obtain ⟨c⟩ := s
  show (⟨c.toList.toArray⟩ : Str) = ⟨c⟩
  simp
theorem app_list (a b : Str) : (a ++ b).cps.toList = a.cps.toList ++ b.cps.toList := by
  show (a.cps ++ b.cps).toList = _
  simp
theorem nl_is : (("\n" : Str)) = strOf [10] := by decide +kernel
theorem empty_is : (("" : Str)) = strOf [] := by decide +kernel
theorem gap_is : (("#" : Str)) = strOf [35] := by decide +kernel
theorem dot_is : (("." : Str)) = strOf [46] := by decide +kernel
theorem signs_is : ((".#" : Str)) = strOf [46, 35] := by decide +kernel
theorem sign_eq (c k : Nat) : (V.str ⟨#[c]⟩ = V.str (strOf [k])) ↔ c = k := by
  constructor
  · intro h
    injection h with h
    have := strOf_inj (a := [c]) (b := [k]) h
    injection this
  · rintro rfl
    rfl
theorem str_eq (a b : List Nat) : (V.str (strOf a) = V.str (strOf b)) ↔ a = b :=
  ⟨fun h => strOf_inj (by injection h), fun h => by rw [h]⟩

/-! ### cutting is told by the parts -/
theorem cons_uniq {c : Nat} : ∀ {p q r s : List Nat}, c ∉ p → c ∉ q → p ++ c :: r = q ++ c :: s → p = q ∧ r = s
  | [], [], r, s, _, _, h => ⟨rfl, by simpa using h⟩
  | [], x :: q, r, s, _, hq, h => by
    have : c = x := by simpa using (List.cons.inj h).1
    exact absurd (this ▸ List.mem_cons_self) hq
  | x :: p, [], r, s, hp, _, h => by
    have : x = c := by simpa using (List.cons.inj h).1
    exact absurd (this ▸ List.mem_cons_self) hp
  | x :: p, y :: q, r, s, hp, hq, h => by
    have e := List.cons.inj h
    have ih := cons_uniq (p := p) (q := q) (r := r) (s := s) (fun z => hp (List.mem_cons_of_mem _ z)) (fun z => hq (List.mem_cons_of_mem _ z)) e.2
    exact ⟨by rw [e.1, ih.1], ih.2⟩
theorem join_two (c : Nat) (p q : Str) (r : List Str) : (Str.join ⟨#[c]⟩ (p :: q :: r)).cps.toList = p.cps.toList ++ c :: (Str.join ⟨#[c]⟩ (q :: r)).cps.toList := by
  show (p ++ ⟨#[c]⟩ ++ Str.join ⟨#[c]⟩ (q :: r)).cps.toList = _
  rw [app_list, app_list]
  show (p.cps.toList ++ [c]) ++ _ = _
  rw [List.append_assoc]
  rfl
theorem parts_uniq (c : Nat) : ∀ ps qs : List Str, ps ≠ [] → qs ≠ [] → (∀ p ∈ ps, c ∉ p.cps.toList) → (∀ q ∈ qs, c ∉ q.cps.toList) → (Str.join ⟨#[c]⟩ ps).cps.toList = (Str.join ⟨#[c]⟩ qs).cps.toList → ps = qs
  | [], _, h, _, _, _, _ => absurd rfl h
  | _ :: _, [], _, h, _, _, _ => absurd rfl h
  | [p], [q], _, _, _, _, h => by
    have e : p.cps.toList = q.cps.toList := h
    rw [← strOf_of p, ← strOf_of q, e]
  | [p], q :: q2 :: r, _, _, hp, _, h => by
    rw [join_two] at h
    exact absurd (show c ∈ p.cps.toList by rw [show p.cps.toList = _ from h]; simp) (hp p List.mem_cons_self)
  | p :: p2 :: r, [q], _, _, _, hq, h => by
    rw [join_two] at h
    exact absurd (show c ∈ q.cps.toList by rw [show q.cps.toList = _ from h.symm]; simp) (hq q List.mem_cons_self)
  | p :: p2 :: r, q :: q2 :: s, _, _, hp, hq, h => by
    rw [join_two, join_two] at h
    obtain ⟨e1, e2⟩ := cons_uniq (hp p List.mem_cons_self) (hq q List.mem_cons_self) h
    have ih := parts_uniq c (p2 :: r) (q2 :: s) (by simp) (by simp) (fun x hx => hp x (List.mem_cons_of_mem _ hx)) (fun x hx => hq x (List.mem_cons_of_mem _ hx)) e2
    have e : p = q := by rw [← strOf_of p, ← strOf_of q, e1]
    rw [e, ih]
theorem join_snoc (c : Nat) (e : Str) : ∀ xs : List Str, (Str.join ⟨#[c]⟩ (xs ++ [e])).cps.toList = xs.flatMap (fun x => x.cps.toList ++ [c]) ++ e.cps.toList
  | [] => rfl
  | [x] => by
    show (Str.join ⟨#[c]⟩ [x, e]).cps.toList = _
    rw [join_two]
    show x.cps.toList ++ c :: e.cps.toList = _
    simp
  | x :: y :: xs => by
    show (Str.join ⟨#[c]⟩ (x :: y :: (xs ++ [e]))).cps.toList = _
    rw [join_two]
    have ih := join_snoc c e (y :: xs)
    rw [List.cons_append] at ih
    rw [ih]
    simp

/-! ### the plain text of a board -/
def sgn (g : List Cell) (x y : Int) : Nat := if (x, y) ∈ g then 35 else 46
def rowL (g : List Cell) (y : Int) (n : Nat) : List Nat := (List.range n).map fun x : Nat => sgn g (x : Int) y
def textL (g : List Cell) (w n : Nat) : List Nat := (List.range n).flatMap fun y : Nat => rowL g (y : Int) w ++ [10]
theorem rowL_succ (g : List Cell) (y : Int) (n : Nat) : rowL g y (n + 1) = rowL g y n ++ [sgn g (n : Int) y] := by
  unfold rowL
  rw [List.range_succ, List.map_append]
  rfl
theorem textL_succ (g : List Cell) (w n : Nat) : textL g w (n + 1) = textL g w n ++ (rowL g (n : Int) w ++ [10]) := by
  unfold textL
  rw [List.range_succ, List.flatMap_append]
  simp
theorem rowL_length (g : List Cell) (y : Int) (n : Nat) : (rowL g y n).length = n := by
  unfold rowL
  rw [List.length_map, List.length_range]
theorem textL_length (g : List Cell) (w n : Nat) : (textL g w n).length = n * (w + 1) := by
  induction n with
  | zero => simp [textL]
  | succ n ih =>
    rw [textL_succ, List.length_append, List.length_append, rowL_length, ih, Nat.succ_mul]
    rfl
theorem sgn_or (g : List Cell) (x y : Int) : sgn g x y = 35 ∨ sgn g x y = 46 := by
  unfold sgn
  split
  · exact .inl rfl
  · exact .inr rfl
theorem textL_congr {g g' : List Cell} (e : ∀ c, c ∈ g ↔ c ∈ g') (w n : Nat) : textL g w n = textL g' w n := by
  unfold textL rowL
  congr 1
  funext y
  congr 1
  refine List.map_congr_left fun x _ => ?_
  unfold sgn
  simp [e]
theorem split_text (g : List Cell) (w n : Nat) : Txt.split (strOf (textL g w n)) (strOf [10]) = ((List.range n).map fun y : Nat => strOf (rowL g (y : Int) w)) ++ [strOf []] := by
  have hne : Txt.split (strOf (textL g w n)) (strOf [10]) ≠ [] := by
    intro z
    have := split_pos (strOf (textL g w n)) (strOf [10])
    rw [z] at this
    exact absurd this (by decide)
  refine parts_uniq 10 _ _ hne (by simp) (StrLaws.split_free (strOf (textL g w n)) 10) (fun q hq => ?_) ?_
  · rcases List.mem_append.mp hq with hq | hq
    · obtain ⟨y, _, rfl⟩ := List.mem_map.mp hq
      rw [strOf_list]
      intro z
      obtain ⟨x, _, hx⟩ := List.mem_map.mp z
      rcases sgn_or g (x : Int) (y : Int) with h | h <;> rw [h] at hx <;> cases hx
    · have : q = strOf [] := by simpa using hq
      subst this
      rw [strOf_list]
      simp
  · rw [join_snoc]
    have e : (Str.join ⟨#[10]⟩ (Txt.split (strOf (textL g w n)) (strOf [10]))) = strOf (textL g w n) := StrLaws.join_split _ _
    rw [e, strOf_list, strOf_list, List.append_nil, List.flatMap_map]
    rfl

/-! ### the board that a text writes -/
def rowAt (ls : List Str) (y : Nat) : List Nat := ((ls[y]?).getD (strOf [])).cps.toList
def gapRow (l : List Nat) (y : Int) (j : Nat) : List Cell := ((List.range j).filter fun x => decide (l[x]? = some 35)).map fun x : Nat => ((x : Int), y)
def gapsOf (ls : List Str) (n : Nat) : List Cell := (List.range n).flatMap fun y : Nat => gapRow (rowAt ls y) (y : Int) (rowAt ls y).length
def GoodRow (ls : List Str) (y : Nat) : Prop := (rowAt ls y).length = (rowAt ls 0).length ∧ ∀ x ∈ rowAt ls y, x = 35 ∨ x = 46
def GoodT (ls : List Str) : Prop := (∀ y, y < ls.length - 1 → GoodRow ls y) ∧ rowAt ls (ls.length - 1) = [] ∧ Sides ((rowAt ls 0).length : Int) ((ls.length - 1 : Nat) : Int)
theorem gapRow_succ (l : List Nat) (y : Int) (j : Nat) : gapRow l y (j + 1) = gapRow l y j ++ if l[j]? = some 35 then [((j : Int), y)] else [] := by
  unfold gapRow
  rw [List.range_succ, List.filter_append, List.map_append]
  congr 1
  by_cases h : l[j]? = some 35 <;> simp [h]
theorem gapRow_length (l : List Nat) (y : Int) (j : Nat) : (gapRow l y j).length ≤ j := by
  unfold gapRow
  rw [List.length_map]
  exact Nat.le_trans (List.length_filter_le _ _) (by simp)
theorem gapsOf_succ (ls : List Str) (n : Nat) : gapsOf ls (n + 1) = gapsOf ls n ++ gapRow (rowAt ls n) (n : Int) (rowAt ls n).length := by
  unfold gapsOf
  rw [List.range_succ, List.flatMap_append]
  simp
theorem mem_gapsOf {ls : List Str} {n : Nat} {c : Cell} : c ∈ gapsOf ls n ↔ ∃ y x : Nat, y < n ∧ (rowAt ls y)[x]? = some 35 ∧ c = ((x : Int), (y : Int)) := by
  unfold gapsOf gapRow
  rw [List.mem_flatMap]
  constructor
  · rintro ⟨y, hy, hc⟩
    obtain ⟨x, hx, rfl⟩ := List.mem_map.mp hc
    obtain ⟨hx1, hx2⟩ := List.mem_filter.mp hx
    exact ⟨y, x, List.mem_range.mp hy, by simpa using hx2, rfl⟩
  · rintro ⟨y, x, hy, hx, rfl⟩
    exact ⟨y, List.mem_range.mpr hy, List.mem_map.mpr ⟨x, List.mem_filter.mpr ⟨List.mem_range.mpr (List.getElem?_eq_some_iff.mp hx).1, by simpa using hx⟩, rfl⟩⟩
theorem gapsOf_nodup (ls : List Str) (n : Nat) : (gapsOf ls n).Nodup := by
  induction n with
  | zero => exact List.nodup_nil
  | succ n ih =>
    rw [gapsOf_succ]
    refine List.nodup_append.mpr ⟨ih, ?_, ?_⟩
    · unfold gapRow
      refine List.Pairwise.map _ ?_ (List.nodup_range.filter _)
      intro a b hab z
      apply hab
      have := congrArg Prod.fst z
      exact Int.ofNat.inj this
    · intro a ha b hb z
      subst z
      obtain ⟨y, x, hy, _, e⟩ := mem_gapsOf.mp ha
      unfold gapRow at hb
      obtain ⟨x2, _, e2⟩ := List.mem_map.mp hb
      rw [e] at e2
      have := congrArg Prod.snd e2
      have : (n : Int) = (y : Int) := this
      omega
theorem gapsOf_inb {ls : List Str} (h : GoodT ls) : InB ((rowAt ls 0).length : Int) ((ls.length - 1 : Nat) : Int) (gapsOf ls (ls.length - 1)) := by
  intro c hc
  obtain ⟨y, x, hy, hx, rfl⟩ := mem_gapsOf.mp hc
  have h1 := (List.getElem?_eq_some_iff.mp hx).1
  have h2 := (h.1 y hy).1
  dsimp only
  omega
theorem rowAt_le (t : Str) (y : Nat) : (rowAt (Txt.split t (strOf [10])) y).length ≤ t.length ∧ (Txt.split t (strOf [10])).length ≤ t.length + 1 := by
  have h := split_weight t (strOf [10]) (by decide)
  have hp := split_pos t (strOf [10])
  generalize Txt.split t (strOf [10]) = ls at h hp
  refine ⟨?_, by omega⟩
  unfold rowAt
  cases e : ls[y]? with
  | none => exact Nat.zero_le _
  | some s =>
    have hm := List.mem_of_getElem? e
    have : s.length ≤ (ls.map (·.length)).sum := by
      clear h hp e
      induction ls with
      | nil => cases hm
      | cons a r ih =>
        rw [List.map_cons, List.sum_cons]
        rcases List.mem_cons.mp hm with rfl | hm
        · omega
        · have := ih hm; omega
    have e2 : s.cps.toList.length = s.length := rfl
    show s.cps.toList.length ≤ _
    omega
theorem gapsOf_length (ls : List Str) (m : Nat) (h : ∀ y, (rowAt ls y).length ≤ m) (n : Nat) : (gapsOf ls n).length ≤ n * m := by
  induction n with
  | zero => simp [gapsOf]
  | succ n ih =>
    rw [gapsOf_succ, List.length_append, Nat.succ_mul]
    have h1 := gapRow_length (rowAt ls n) (n : Int) (rowAt ls n).length
    have h2 := h n
    omega
/-- the text of a board is read as that board -/
theorem rowAt_text (g : List Cell) (w n y : Nat) (h : y < n) : rowAt (((List.range n).map fun y : Nat => strOf (rowL g (y : Int) w)) ++ [strOf []]) y = rowL g (y : Int) w := by
  unfold rowAt
  rw [List.getElem?_append_left (by simpa using h), List.getElem?_map, List.getElem?_range h]
  rfl
theorem rowAt_end (g : List Cell) (w n : Nat) : rowAt (((List.range n).map fun y : Nat => strOf (rowL g (y : Int) w)) ++ [strOf []]) n = [] := by
  unfold rowAt
  rw [List.getElem?_append_right (by simp)]
  simp
  rfl
theorem text_good {w h : Int} {g : List Cell} (sd : Sides w h) (ib : InB w h g) :
    GoodT (Txt.split (strOf (textL g w.toNat h.toNat)) (strOf [10])) ∧ (rowAt (Txt.split (strOf (textL g w.toNat h.toNat)) (strOf [10])) 0).length = w.toNat ∧ (Txt.split (strOf (textL g w.toNat h.toNat)) (strOf [10])).length - 1 = h.toNat ∧
      ∀ c, c ∈ gapsOf (Txt.split (strOf (textL g w.toNat h.toNat)) (strOf [10])) h.toNat ↔ c ∈ g := by
  obtain ⟨s1, s2, s3, s4⟩ := id sd
  rw [split_text]
  have hl : (((List.range h.toNat).map fun y : Nat => strOf (rowL g (y : Int) w.toNat)) ++ [strOf []]).length - 1 = h.toNat := by simp
  have r0 := rowAt_text g w.toNat h.toNat 0 (by omega)
  refine ⟨⟨fun y hy => ?_, ?_, ?_⟩, by rw [r0, rowL_length], hl, fun c => ?_⟩
  · rw [hl] at hy
    unfold GoodRow
    rw [rowAt_text g w.toNat h.toNat y hy, r0, rowL_length, rowL_length]
    refine ⟨rfl, fun x hx => ?_⟩
    obtain ⟨k, _, rfl⟩ := List.mem_map.mp hx
    exact sgn_or _ _ _
  · rw [hl]
    exact rowAt_end _ _ _
  · rw [hl, r0, rowL_length]
    have e1 : ((w.toNat : Nat) : Int) = w := by omega
    have e2 : ((h.toNat : Nat) : Int) = h := by omega
    rw [e1, e2]
    exact sd
  · rw [mem_gapsOf]
    constructor
    · rintro ⟨y, x, hy, hx, rfl⟩
      rw [rowAt_text g w.toNat h.toNat y hy] at hx
      unfold rowL at hx
      rw [List.getElem?_map] at hx
      obtain ⟨k, hk, e⟩ := Option.map_eq_some_iff.mp hx
      have hk2 : k = x := by
        have := (List.getElem?_eq_some_iff.mp hk)
        obtain ⟨q1, q2⟩ := this
        simpa using q2.symm
      subst hk2
      unfold sgn at e
      split at e
      · assumption
      · cases e
    · intro hc
      have hb := ib c hc
      refine ⟨c.2.toNat, c.1.toNat, by omega, ?_, ?_⟩
      · rw [rowAt_text g w.toNat h.toNat _ (by omega)]
        unfold rowL
        rw [List.getElem?_map, List.getElem?_range (by omega)]
        have e1 : ((c.1.toNat : Nat) : Int) = c.1 := by omega
        have e2 : ((c.2.toNat : Nat) : Int) = c.2 := by omega
        show some (sgn g ((c.1.toNat : Nat) : Int) ((c.2.toNat : Nat) : Int)) = some 35
        rw [e1, e2]
        unfold sgn
        rw [if_pos hc]
      · have e1 : ((c.1.toNat : Nat) : Int) = c.1 := by omega
        have e2 : ((c.2.toNat : Nat) : Int) = c.2 := by omega
        rw [e1, e2]
theorem text_gaps_perm {w h : Int} {g : List Cell} (sd : Sides w h) (nd : g.Nodup) (ib : InB w h g) : (gapsOf (Txt.split (strOf (textL g w.toNat h.toNat)) (strOf [10])) h.toNat).Perm g :=
  (List.perm_ext_iff_of_nodup (gapsOf_nodup _ _) nd).mpr (text_good sd ib).2.2.2
/-! ### in, of a list of cells -/
theorem in_ls {K : PySem.W.Frag} {H : Hp} {v : V} {a : Addr} {c : Cell} {l : List Cell} {Q : VK} (hv : CellV H v c) (hl : LsA CellV H a l) (q : Q (.bl (decide (c ∈ l))) H) : rInD K v (.ref a) H Q := by
  refine ⟨cD c, l.map cD, rep_cell.dp hv, hl.dp rep_cell, ge_cell.shaped (by decide) c, (ge_list ge_cell).shaped (by decide) l, ?_⟩
  have e : ((l.map cD).any fun z => PyData.eqv z (cD c)) = decide (c ∈ l) := by
    clear q hl
    induction l with
    | nil => rfl
    | cons a l ih =>
      rw [List.map_cons, List.any_cons, ih, ge_cell.eqv]
      by_cases h1 : a = c
      · subst h1; simp
      · have h2 : ¬ c = a := fun e => h1 e.symm
        simp [h1, h2]
  rw [e]
  exact q
theorem notin_ls {K : PySem.W.Frag} {H : Hp} {v : V} {a : Addr} {c : Cell} {l : List Cell} {Q : VK} (hv : CellV H v c) (hl : LsA CellV H a l) (q : Q (.bl (!decide (c ∈ l))) H) : rNotInD K v (.ref a) H Q := by
  obtain ⟨d, ds, h1, h2, h3, h4, h5⟩ := in_ls (K := K) (Q := fun v _ => Q (.bl (!decide (c ∈ l))) H ∧ v = .bl (decide (c ∈ l))) hv hl ⟨q, rfl⟩
  refine ⟨d, ds, h1, h2, h3, h4, ?_⟩
  injection h5.2 with e
  rw [e]
  exact q
theorem rep_size (a : Array Nat) : ∀ (n : Nat) (acc : Array Nat), ((List.replicate n a).foldl (· ++ ·) acc).size = acc.size + n * a.size
  | 0, acc => by simp
  | n + 1, acc => by
    rw [List.replicate_succ, List.foldl_cons, rep_size a n, Array.size_append, Nat.succ_mul]
    omega
theorem mul_length (z : Str) {i : Int} (h : 1 ≤ i) : (Txt.mul z i).length ≤ z.length * i.toNat := by
  unfold Txt.mul
  rw [if_neg (by omega)]
  split
  · obtain ⟨n, rfl⟩ : ∃ n : Nat, i = (n : Int) := ⟨i.toNat, by omega⟩
    rw [Int.toNat_natCast]
    exact Nat.le_mul_of_pos_right _ (by omega)
  · show ((List.replicate i.toNat z.cps).foldl (· ++ ·) #[]).size ≤ _
    rw [rep_size]
    show 0 + i.toNat * z.cps.size ≤ z.cps.size * i.toNat
    rw [Nat.zero_add, Nat.mul_comm]
    exact Nat.le_refl _
theorem op_rep_str {X : Cx} : OpR X (binaryOp .Mult) (fun x y H Q => ∃ z i, x = .str z ∧ y = .int i ∧ 1 ≤ i ∧ i ≤ 1000 ∧ z.length ≤ 1000 ∧ ∀ r : Str, r.length ≤ z.length * i.toNat → Q (.str r) H) := by
  intro pins s σ H x y v u Q I rx ry h
  obtain ⟨z, i, rfl, rfl, h1, h2, h3, q⟩ := h
  obtain ⟨t, rfl⟩ := rx
  obtain ⟨t', rfl⟩ := ry
  have e1 : decide (i < -(2 ^ 63 : Int)) = false := decide_eq_false (by omega)
  have e2 : decide (i ≥ 2 ^ 63) = false := decide_eq_false (by omega)
  have hm : z.length * i.toNat ≤ 1000 * 1000 := Nat.mul_le_mul h3 (by omega)
  have hok : MulOk z i := by
    refine ⟨by rw [e1, e2, Bool.or_false], fun _ _ hh => ?_, fun _ _ => ?_⟩
    · have h4 : ((z.length : Nat) : Int) ≤ (2 ^ 63 - 1) / i := by
        rw [Int.le_ediv_iff_mul_le (by omega)]
        have e : ((z.length * i.toNat : Nat) : Int) = (z.length : Int) * i := by
          rw [Int.natCast_mul]
          congr 1
          omega
        rw [← e]
        omega
      exact absurd hh (by omega)
    · unfold Builtin.Str.tooLong
      simp
      exact Nat.le_trans hm (by decide)
  exact SB.mul hok (fun t' tk => ⟨.str (Txt.mul z i), H, I.tok _, ⟨_, rfl⟩, q _ (mul_length z h1)⟩)
theorem units65 {k : Nat} {A : Around} (r : Room k A) : A.units + 65 < cLine := by have := r.un; omega
theorem op_inRK {X : Cx} (K : PySem.W.Frag) (hK : X.K = K) (hu : X.A.units + 65 < cLine) : OpR X (compareOp .In) (rInD K) := by subst hK; exact op_inD hu
theorem op_notInRK {X : Cx} (K : PySem.W.Frag) (hK : X.K = K) (hu : X.A.units + 65 < cLine) : OpR X (compareOp .NotIn) (rNotInD K) := by subst hK; exact op_notInD hu
end CF

set_option Elab.async false
set_option linter.all false
set_option maxRecDepth 100000
set_option maxHeartbeats 4000000
set_option hygiene false
/-! CFText: texts of boards. -/
namespace CF
open PySem PySem.Spec PyProof.Rows L2
section
variable {P : Program} {Wd : World} {K : PySem.W.Frag} {mg : Str → Option Value} {base : Heap} {C : Addr}
theorem sign_ix (k : Bool) : atI (strOf [46, 35]).cps.toList (if k then 1 else 0) = some (if k then 35 else 46) := by cases k <;> rfl
theorem room_text {w h : Int} {i : Nat} (sd : Sides w h) (hi : i ≤ h.toNat) (g : List Cell) : (textL g w.toNat i).length ≤ 300 := by
  obtain ⟨s1, s2, s3, s4⟩ := sd
  rw [textL_length]
  have : i * (w.toNat + 1) ≤ 16 * 17 := Nat.mul_le_mul (by omega) (by omega)
  omega
theorem line_room {n : Nat} (h : n ≤ 1000000) : n ≤ sizeLine := Nat.le_of_lt (Nat.lt_of_le_of_lt h big_line)

abbrev s_L_text : Stmt := top 22
abbrev n_L_text : List Str := ["width", "height", "gaps", "there", "gap", "text", "y", "x"]
abbrev p_L_text : List Str := ["width", "height", "gaps"]
theorem sc_L_text : FnScope n_L_text p_L_text (defScope s_L_text) := ⟨rfl, rfl, rfl, by decide +kernel, rfl, by decide +kernel, by decide +kernel⟩

def spLawText : Sp := fun vs H Q _ => ∃ (ga : Addr) (w h : Int) (g : List Cell), vs = [.int w, .int h, .ref ga] ∧ LsA CellV H ga g ∧ g.length ≤ 100000 ∧ Sides w h ∧ ∀ H', Same H H' → Q (.str (strOf (textL g w.toNat h.toNat))) H'
theorem ok_L_text (B : Bl mg) (f : Addr) (fd : FuncData) (F : Fun K "_law_text" "_law_text" s_L_text f fd) : FnOk P Wd K mg base CX0 1 f fd p_L_text spLawText := by
  refine F.ok sc_L_text (fun vs H Q E h => ?_) (fun cdv A outer s H vs Q E hr h => ?_)
  · obtain ⟨ga, w, h, g, rfl, _⟩ := h
    rfl
  · obtain ⟨ga, w, h, g, rfl, hg, hgl, sd, k⟩ := h
    have hu := hu_of hr
    obtain ⟨s1, s2, s3, s4⟩ := id sd
    refine ⟨_,
      (pss_cons (ps_set (i := 3) sc_L_text.nd rfl (by first | exact Or.inl rfl | exact Or.inr rfl) pe_dnewT)
      (pss_cons (ps_for PassesOwn.never (by rfl) (pi_seqK K (by rfl) (L2.pv 2)) (pg_name (i := 4) sc_L_text.nd rfl (by first | exact Or.inl rfl | exact Or.inr rfl))
        (pss_one (ps_dput (by exact hu) (L2.pv 3) (L2.pv 4) pe_bl rfl)))
      (pss_cons (ps_set (i := 5) sc_L_text.nd rfl (by first | exact Or.inl rfl | exact Or.inr rfl) pe_str)
      (pss_cons (ps_for PassesOwn.never (by rfl) (pi_range1 (by rfl) B.range (pa_cons (L2.pv 1) pa_nil)) (pg_name (i := 6) sc_L_text.nd rfl (by first | exact Or.inl rfl | exact Or.inr rfl))
        (pss_cons (ps_for PassesOwn.never (by rfl) (pi_range1 (by rfl) B.range (pa_cons (L2.pv 0) pa_nil)) (pg_name (i := 7) sc_L_text.nd rfl (by first | exact Or.inl rfl | exact Or.inr rfl))
           (pss_one (ps_set (i := 5) sc_L_text.nd rfl (by first | exact Or.inl rfl | exact Or.inr rfl) (pe_op op_add_str (L2.pv 5) (pe_ix (by exact ix_str) pe_str (pe_callTy call_int1 (by rfl) B.int bt_int (pa_cons (pe_cmp (pc_din (by exact hu) (pe_tup (pa_cons (L2.pv 7) (pa_cons (L2.pv 6) pa_nil))) (L2.pv 3))) pa_nil)) (fun _ _ => rfl))))))
         (pss_one (ps_set (i := 5) sc_L_text.nd rfl (by first | exact Or.inl rfl | exact Or.inr rfl) (pe_op op_add_str (L2.pv 5) pe_str)))))
      (pss_one (ps_ret (L2.pv 5))))))), ?_⟩
    rw [signs_is, empty_is, nl_is]
    intro d hd
    obtain ⟨gs, hga, pg⟩ := hg
    have sd0 : Same H (upd H d (.dT [])) := sameNew hd
    refine ⟨_, rfl, ga, rfl, marks_seq (.inl (SqL.of hga)) sd0 hd pg hgl upd_same (by decide) rfl (by show 4 < 8; decide) (fun o H1 g' kb hd1 hm hl => ?_)⟩
    have hs1 : Same H H1 := But.same sd0 kb hd
    have mem : ∀ c, c ∈ g' ↔ c ∈ g := hm
    refine ⟨_, rfl, h, rfl, by omega, by omega, for_range (lo := 0) (n := h.toNat) (fun i σ H2 => Same H1 H2 ∧ ∃ v6 v7 : Option V, σ = [some (.int w), some (.int h), some (.ref ga), some (.ref d), o, some (.str (strOf (textL g w.toNat i))), v6, v7]) ⟨Same.refl _, none, none, rfl⟩ ?_ ?_⟩
    · rintro i σ H2 hi ⟨s5, v6, v7, rfl⟩
      rw [Int.zero_add]
      refine ⟨_, rfl, w, rfl, by omega, by omega, for_range (lo := 0) (n := w.toNat) (fun j σ H3 => Same H1 H3 ∧ ∃ v7 : Option V, σ = [some (.int w), some (.int h), some (.ref ga), some (.ref d), o, some (.str (strOf (textL g w.toNat i ++ rowL g (i : Int) j))), some (.int (i : Int)), v7]) ⟨s5, v7, by rw [show rowL g (i : Int) 0 = [] from rfl, List.append_nil]; rfl⟩ ?_ ?_⟩
      · rintro j σ H3 hj ⟨s6, v7, rfl⟩
        rw [Int.zero_add]
        refine ⟨_, rfl, _, rfl, _, rfl, (by show 2 ≤ sizeLine; decide), fun t ht => ?_⟩
        have s7 : Same H3 (upd H3 t (.tup [.int (j : Int), .int (i : Int)])) := sameNew ht
        refine ⟨_, rfl, d, _, rfl, DGet.t (k := ck ((j : Int), (i : Int))) (s7 _ _ (s6 _ _ hd1)) upd_same, .inr ⟨_, rfl, ?_⟩⟩
        rw [valV_gE_some]
        refine ⟨_, _, _, rfl, rfl, (by rw [strOf_length]; decide), sign_ix _, ?_⟩
        refine ⟨_, _, rfl, rfl, ?_, ?_⟩
        · have e1 := room_text sd (show i ≤ h.toNat by omega) g
          have e2 := rowL_length g (i : Int) j
          rw [strOf_length, List.length_append, e2]
          exact line_room (show (textL g w.toNat i).length + j + 1 ≤ 1000000 by omega)
        · refine ⟨s6.trans s7, some (.int (j : Int)), ?_⟩
          have e : (if decide (((j : Int), (i : Int)) ∈ g') = true then 35 else 46) = sgn g (j : Int) (i : Int) := by
            unfold sgn
            by_cases hm : ((j : Int), (i : Int)) ∈ g
            · rw [if_pos (decide_eq_true ((mem _).mpr hm)), if_pos hm]
            · rw [decide_eq_false (fun z => hm ((mem _).mp z)), if_neg (by decide), if_neg hm]
          rw [e, rowL_succ, ← List.append_assoc, ← strOf_append _ [sgn g (j : Int) (i : Int)]]
          rfl
      · rintro σ H3 ⟨s6, v7, rfl⟩
        refine ⟨_, rfl, _, _, rfl, rfl, ?_, ?_⟩
        · have e1 := room_text sd (show i ≤ h.toNat by omega) g
          have e2 := rowL_length g (i : Int) w.toNat
          rw [strOf_length, strOf_length, List.length_append, e2]
          exact line_room (show (textL g w.toNat i).length + w.toNat + 1 ≤ 1000000 by omega)
        · refine ⟨s6, some (.int (i : Int)), v7, ?_⟩
          rw [textL_succ, ← List.append_assoc, ← strOf_append _ [10]]
          rfl
    · rintro σ H2 ⟨s5, v6, v7, rfl⟩
      exact ⟨_, rfl, k _ (hs1.trans s5)⟩

abbrev s_read : Stmt := top 12
abbrev n_read : List Str := ["text", "lines", "gaps", "y", "x", "board"]
abbrev p_read : List Str := ["text"]
theorem sc_read : FnScope n_read p_read (defScope s_read) := ⟨rfl, rfl, rfl, by decide +kernel, rfl, by decide +kernel, by decide +kernel⟩

def spReadX (C cN : Addr) : Sp := fun vs H Q E => ∃ t : Str, vs = [.str t] ∧ t.length ≤ 2000 ∧
  (GoodT (Txt.split t (strOf [10])) → ∀ H' p, Same H H' → BoardAt C H' p ((rowAt (Txt.split t (strOf [10])) 0).length : Int) (((Txt.split t (strOf [10])).length - 1 : Nat) : Int) (gapsOf (Txt.split t (strOf [10])) ((Txt.split t (strOf [10])).length - 1)) → Q (.ref p) H') ∧
  (¬ GoodT (Txt.split t (strOf [10])) → ∀ H', Same H H' → E (.ref cN) none H')
def spRead (C : Addr) : Sp := fun vs H Q _ => ∃ t : Str, vs = [.str t] ∧ t.length ≤ 2000 ∧ GoodT (Txt.split t (strOf [10])) ∧
  ∀ H' p, Same H H' → BoardAt C H' p ((rowAt (Txt.split t (strOf [10])) 0).length : Int) (((Txt.split t (strOf [10])).length - 1 : Nat) : Int) (gapsOf (Txt.split t (strOf [10])) ((Txt.split t (strOf [10])).length - 1)) → Q (.ref p) H'
theorem read_of {C cN : Addr} : ∀ vs H Q E, spRead C vs H Q E → spReadX C cN vs H Q E0 := fun vs H Q E ⟨t, e, h1, h2, h3⟩ => ⟨t, e, h1, fun _ => h3, fun n => absurd h2 n⟩
theorem ok_read {cS cG cN : Addr} (B : Bl mg) (E_BadSides : Ec K mg "BadSides" cS) (E_NoText : Ec K mg "NoText" cN) (SS : PySem.W.subIn K (.ref cS) (.ref cS) = some true) (DX_Board : BmN P Wd K mg base "Board" C 1 p_B_init (spInitX C cS cG))
    (f : Addr) (fd : FuncData) (F : Fun K "read" "read" s_read f fd) : FnOk P Wd K mg base (L2.CX P Wd) 3 f fd p_read (spReadX C cN) := by
  refine F.okX sc_read (fun vs H Q E h => ?_) (fun cdv A outer s H vs Q E hr h => ?_)
  · obtain ⟨t, rfl, _⟩ := h
    rfl
  · obtain ⟨t, rfl, hlen, k, kE⟩ := h
    refine ⟨_,
      (pss_cons (ps_set (i := 1) sc_read.nd rfl (by first | exact Or.inl rfl | exact Or.inr rfl) (pe_split (L2.pv 0) pe_str))
      (pss_cons (ps_set (i := 2) sc_read.nd rfl (by first | exact Or.inl rfl | exact Or.inr rfl) (pe_lst pa_nil))
      (pss_cons (ps_for (L2.passes_of rfl) (by rfl) (pi_range1 (by rfl) B.range (pa_cons (pe_op op_sub (pe_callB (cr_len K (by rfl)) (by rfl) B.len bt_len (pa_cons (L2.pv 1) pa_nil)) pe_int) pa_nil)) (pg_name (i := 3) sc_read.nd rfl (by first | exact Or.inl rfl | exact Or.inr rfl))
        (pss_cons (ps_if (pt_cmpR op_ne (pe_callB call_len_str (by rfl) B.len bt_len (pa_cons (pe_ixLK K (by rfl) (L2.pv 1) (L2.pv 3) (fun _ _ => rfl)) pa_nil)) (pe_callB call_len_str (by rfl) B.len bt_len (pa_cons (pe_ixLK K (by rfl) (L2.pv 1) pe_int (fun _ _ => rfl)) pa_nil)) (nomark _))
           (pss_one (L2.ps_raise rfl (L2.takes_of rfl rfl rfl rfl) (L2.pmk_own PySem.F.excBase_ValueError E_NoText.x E_NoText.g E_NoText.k (raises_own E_NoText.b E_NoText.t) (by rfl))))
           pss_nil)
         (pss_one (ps_for (L2.passes_of rfl) (by rfl) (pi_range1 (by rfl) B.range (pa_cons (pe_callB call_len_str (by rfl) B.len bt_len (pa_cons (pe_ixLK K (by rfl) (L2.pv 1) (L2.pv 3) (fun _ _ => rfl)) pa_nil)) pa_nil)) (pg_name (i := 4) sc_read.nd rfl (by first | exact Or.inl rfl | exact Or.inr rfl))
           (pss_one (ps_if (pt_cmpR op_eq (pe_ix (by exact ix_str) (pe_ixLK K (by rfl) (L2.pv 1) (L2.pv 3) (fun _ _ => rfl)) (L2.pv 4) (fun _ _ => rfl)) pe_str (nomark _))
              (pss_one (ps_expr (pe_bmK K (by rfl) PySem.F.plainAttrs_list PySem.F.slot_list_append PySem.F.type_list_append mt_append (L2.pv 2) (pa_cons (pe_tup (pa_cons (L2.pv 4) (pa_cons (L2.pv 3) pa_nil))) pa_nil))))
              (pss_one (ps_if (pt_cmpR op_ne (pe_ix (by exact ix_str) (pe_ixLK K (by rfl) (L2.pv 1) (L2.pv 3) (fun _ _ => rfl)) (L2.pv 4) (fun _ _ => rfl)) pe_str (nomark _))
                 (pss_one (L2.ps_raise rfl (L2.takes_of rfl rfl rfl rfl) (L2.pmk_own PySem.F.excBase_ValueError E_NoText.x E_NoText.g E_NoText.k (raises_own E_NoText.b E_NoText.t) (by rfl))))
                 pss_nil))))))))
      (pss_cons (ps_if (pt_cmpR op_ne (pe_ixLK K (by rfl) (L2.pv 1) (pe_un un_neg pe_int) (fun _ _ => rfl)) pe_str (nomark _))
        (pss_one (L2.ps_raise rfl (L2.takes_of rfl rfl rfl rfl) (L2.pmk_own PySem.F.excBase_ValueError E_NoText.x E_NoText.g E_NoText.k (raises_own E_NoText.b E_NoText.t) (by rfl))))
        pss_nil)
      (pss_cons (L2H.ps_try_onlyX rfl rfl (E_BadSides.names rfl) (L2H.passesAt_of rfl) (L2.takes_of rfl rfl rfl rfl) (fun W pn xe tk tkP po =>
        (pss_one (ps_set (i := 5) sc_read.nd rfl (by first | exact Or.inl rfl | exact Or.inr rfl) (pe_mkS (E := L2.WE W) (by exact DX_Board) (by exact hr.mono (by decide)) (fun σ => L2N.passAt tk σ) (pa_cons (pe_callB call_len_str (by rfl) B.len bt_len (pa_cons (pe_ixLK K (by rfl) (L2.pv 1) pe_int (fun _ _ => rfl)) pa_nil)) (pa_cons (pe_op op_sub (pe_callB (cr_len K (by rfl)) (by rfl) B.len bt_len (pa_cons (L2.pv 1) pa_nil)) pe_int) (pa_cons (L2.pv 2) pa_nil))))))) (fun a oe cls d pn hz hf tkS hot =>
        (pss_one (L2H.ps_raiseH hot tkS (L2N.pmk_own PySem.F.excBase_ValueError E_NoText.x E_NoText.g E_NoText.k (raises_own E_NoText.b E_NoText.t) (by rfl))))))
      (pss_one (ps_ret (L2.pv 5)))))))), ?_⟩
    rw [nl_is, gap_is, dot_is, empty_is]
    have hr0 := rowAt_le t
    have hpos := split_pos t (strOf [10])
    refine ⟨_, rfl, ⟨_, rfl⟩, _, _, rfl, rfl, (by decide), line_room (show t.length + 2 ≤ 1000000 by omega), fun p hp => ?_⟩
    generalize Txt.split t (strOf [10]) = ls at hp hr0 hpos k kE ⊢
    have hr1 := (hr0 0).2
    generalize hH : upd H p _ = H1
    have s1 : Same H H1 := by rw [← hH]; exact sameNew hp
    have lp1 : H1 p = some (.lst (ls.map V.str)) := by rw [← hH]; exact upd_same
    clear hH
    refine ⟨(by show 0 ≤ sizeLine; decide), fun q hq => ?_⟩
    have npq : p ≠ q := ne_of_none lp1 hq
    generalize hH : upd H1 q _ = H2
    have s2 : Same H1 H2 := by rw [← hH]; exact sameNew hq
    have lq2 : H2 q = some (.lst []) := by rw [← hH]; exact upd_same
    clear hH
    have fq : H q = none := s1.free hq
    have hget : ∀ y, y < ls.length → (ls.map V.str)[y]? = some (.str (strOf (rowAt ls y))) := fun y hy => by
      rw [List.getElem?_map, List.getElem?_eq_getElem hy]
      unfold rowAt
      rw [List.getElem?_eq_getElem hy]
      show some (V.str ls[y]) = some (V.str (strOf ls[y].cps.toList))
      rw [strOf_of]
    have hN : (((ls.map V.str).length : Nat) : Int) - 1 = ((ls.length - 1 : Nat) : Int) := by rw [List.length_map]; omega
    have hrl : ∀ y, (strOf (rowAt ls y)).length ≤ sizeLine := fun y => by rw [strOf_length]; exact line_room (by have := (hr0 y).1; omega)
    refine ⟨_, rfl, p, _, rfl, .inl (SqL.of (s2 _ _ lp1)), _, _, rfl, rfl, ((ls.length - 1 : Nat) : Int), congrArg (fun z => [V.int z]) hN, by omega, by omega, ?_⟩
    rw [Int.toNat_natCast]
    refine for_range (lo := 0) (n := ls.length - 1) (fun i σ H3 => (∀ y, y < i → GoodRow ls y) ∧ Same H H3 ∧ H3 p = some (.lst (ls.map V.str)) ∧ LsA CellV H3 q (gapsOf ls i) ∧ ∃ v3 v4 : Option V, σ = [some (.str t), some (.ref p), some (.ref q), v3, v4, none]) ?_ ?_ ?_
    · exact ⟨fun y hy => absurd hy (Nat.not_lt_zero _), s1.trans s2, s2 _ _ lp1, ⟨[], lq2, .nil⟩, none, none, rfl⟩
    · rintro i σ H3 hi ⟨gr, s3, lp, ⟨gv, lq, pg⟩, v3, v4, rfl⟩
      rw [Int.zero_add]
      refine ⟨_, rfl, _, rfl, p, _, _, _, rfl, rfl, SqL.of lp, atI_nat (hget i (by omega)), _, rfl, hrl i, ?_⟩
      refine ⟨_, rfl, p, _, _, _, rfl, rfl, SqL.of lp, atI_nat (j := 0) (hget 0 (by omega)), _, rfl, hrl 0, ?_⟩
      refine ⟨rfl, _, rfl, ?_⟩
      rw [strOf_length, strOf_length]
      refine iteB (fun e => ?_) (fun e => ?_)
      · refine kE (fun hG => ?_) _ s3
        have h1 := (hG.1 i hi).1
        rw [h1] at e
        simp at e
      have el : (rowAt ls i).length = (rowAt ls 0).length := by
        have h1 : decide (V.int ((rowAt ls i).length : Int) = V.int ((rowAt ls 0).length : Int)) = true := by simpa using e
        have h2 := of_decide_eq_true h1
        injection h2 with h2
        omega
      have ri := (hr0 i).1
      refine ⟨_, rfl, _, rfl, p, _, _, _, rfl, rfl, SqL.of lp, atI_nat (hget i (by omega)), _, rfl, hrl i, _, rfl, ?_, ?_, ?_⟩
      · rw [strOf_length]; omega
      · rw [strOf_length]; omega
      rw [strOf_length, Int.toNat_natCast]
      refine for_range (lo := 0) (n := (rowAt ls i).length) (fun j σ H4 => (∀ x, x < j → (rowAt ls i)[x]? = some 35 ∨ (rowAt ls i)[x]? = some 46) ∧ Same H H4 ∧ H4 p = some (.lst (ls.map V.str)) ∧ LsA CellV H4 q (gapsOf ls i ++ gapRow (rowAt ls i) (i : Int) j) ∧ ∃ v4 : Option V, σ = [some (.str t), some (.ref p), some (.ref q), some (.int (i : Int)), v4, none]) ?_ ?_ ?_
      · exact ⟨fun y hy => absurd hy (Nat.not_lt_zero _), s3, lp, by rw [show gapRow (rowAt ls i) (i : Int) 0 = [] from rfl, List.append_nil]; exact ⟨gv, lq, pg⟩, v4, rfl⟩
      · rintro j σ H4 hj ⟨gx, s4, lp4, ⟨gv4, lq4, pg4⟩, v4, rfl⟩
        rw [Int.zero_add]
        have hc : (rowAt ls i)[j]? = some ((rowAt ls i)[j]) := List.getElem?_eq_getElem hj
        have hsucc := gapRow_succ (rowAt ls i) (i : Int) j
        rw [hc] at hsucc
        generalize (rowAt ls i)[j] = c at hc hsucc
        refine ⟨_, rfl, _, rfl, p, _, _, _, rfl, rfl, SqL.of lp4, atI_nat (hget i (by omega)), _, rfl, _, _, c, rfl, rfl, hrl i, (by rw [strOf_list]; exact atI_nat hc), rfl, _, rfl, iteB (fun e => ?_) (fun e => ?_)⟩
        · have ec : c = 35 := (sign_eq c 35).mp (of_decide_eq_true e)
          subst ec
          rw [if_pos rfl] at hsucc
          refine ⟨_, rfl, .inl ⟨rfl, _, SqL.of lq4⟩, _, rfl, _, rfl, (by show 2 ≤ sizeLine; decide), fun tc htc => ?_⟩
          have s5 : Same H4 (upd H4 tc (.tup [.int (j : Int), .int (i : Int)])) := sameNew htc
          have hgl : gv4.length ≤ 4100000 := by
            have e1 := Paired.length pg4
            have e2 := gapsOf_length ls 2000 (fun y => by have := (hr0 y).1; omega) i
            have e3 := gapRow_length (rowAt ls i) (i : Int) j
            rw [List.length_append] at e1
            omega
          refine ⟨q, gv4, _, rfl, rfl, s5 _ _ lq4, Nat.lt_of_le_of_lt hgl (by decide), ?_⟩
          refine ⟨fun x hx => ?_, sameMut (s4.trans s5) fq, by rw [upd_ne npq]; exact s5 _ _ lp4, ?_, _, rfl⟩
          · by_cases h1 : x = j
            · subst h1; exact .inl hc
            · exact gx x (by omega)
          · rw [hsucc, ← List.append_assoc]
            exact push_ls rep_cell (s5 _ _ lq4) (pair_mono rep_cell (TP.of s5) pg4) ⟨tc, rfl, upd_same⟩
        · refine ⟨_, rfl, _, rfl, p, _, _, _, rfl, rfl, SqL.of lp4, atI_nat (hget i (by omega)), _, rfl, _, _, c, rfl, rfl, hrl i, (by rw [strOf_list]; exact atI_nat hc), rfl, _, rfl, iteB (fun e2 => ?_) (fun e2 => ?_)⟩
          · refine kE (fun hG => ?_) _ s4
            have h1 := (hG.1 i hi).2 c (List.mem_of_getElem? hc)
            rcases h1 with rfl | rfl
            · rw [decide_eq_true ((sign_eq 35 35).mpr rfl)] at e; cases e
            · rw [decide_eq_true ((sign_eq 46 46).mpr rfl)] at e2; cases e2
          · have ec : c = 46 := (sign_eq c 46).mp (of_decide_eq_true (by simpa using e2))
            subst ec
            rw [if_neg (by decide), List.append_nil] at hsucc
            refine ⟨fun x hx => ?_, s4, lp4, ?_, _, rfl⟩
            · by_cases h1 : x = j
              · subst h1; exact .inr hc
              · exact gx x (by omega)
            · rw [hsucc]; exact ⟨gv4, lq4, pg4⟩
      · rintro σ H4 ⟨gx, s4, lp4, lq4, v4, rfl⟩
        refine ⟨fun y hy => ?_, s4, lp4, by rw [gapsOf_succ]; exact lq4, _, _, rfl⟩
        by_cases h1 : y = i
        · subst h1
          refine ⟨el, fun x hx => ?_⟩
          obtain ⟨n, hn⟩ := List.getElem?_of_mem hx
          rcases gx n (List.getElem?_eq_some_iff.mp hn).1 with h2 | h2 <;> rw [hn] at h2 <;> injection h2 with h2
          · exact .inl h2
          · exact .inr h2
        · exact gr y (by omega)
    · rintro σ H3 ⟨gr, s3, lp, lq, v3, v4, rfl⟩
      have hlast : atI (ls.map V.str) (-1) = some (.str (strOf (rowAt ls (ls.length - 1)))) := by
        have h1 := hget (ls.length - 1) (by omega)
        have h2 : ls.map V.str = (ls.map V.str).take (ls.length - 1) ++ [.str (strOf (rowAt ls (ls.length - 1)))] := by
          have h3 : (ls.map V.str).take (ls.length - 1 + 1) = ls.map V.str := List.take_of_length_le (by rw [List.length_map]; omega)
          rw [List.take_add_one, h1] at h3
          exact h3.symm
        rw [h2]
        exact atI_last _ _
      refine ⟨_, rfl, _, rfl, p, _, _, _, rfl, rfl, SqL.of lp, hlast, rfl, _, rfl, iteB (fun e => ?_) (fun e => ?_)⟩
      · refine kE (fun hG => ?_) _ s3
        rw [hG.2.1] at e
        simp at e
      have ee : rowAt ls (ls.length - 1) = [] := (str_eq _ []).mp (of_decide_eq_true (by simpa using e))
      refine ⟨_, rfl, p, _, _, _, rfl, rfl, SqL.of lp, atI_nat (j := 0) (hget 0 (by omega)), _, rfl, hrl 0, ?_⟩
      refine ⟨_, rfl, p, _, rfl, .inl (SqL.of lp), _, _, rfl, rfl, _, rfl, fun x dx nx ndx nex => ?_⟩
      have s4 : Same H3 (upd (upd H3 dx (.own x)) x (.ins C dx [])) := fun b o e => by rw [upd_ne (ne_of_none e nx), upd_ne (ne_of_none e ndx)]; exact e
      refine ⟨x, dx, q, ((rowAt ls 0).length : Int), ((ls.length - 1 : Nat) : Int), gapsOf ls (ls.length - 1), ?_, upd_same, lq.keep rep_cell s4, ?_, ?_, ?_⟩
      · rw [strOf_length]
        exact congrArg (fun z => [V.ref x, V.int ((rowAt ls 0).length : Int), V.int z, V.ref q]) hN
      · intro sd nd ib H5 bd kb
        exact ⟨rfl, _, rfl, k ⟨gr, ee, sd⟩ _ _ (s3.trans (made_same nx ndx kb)) bd⟩
      · intro nsd H5 kb
        refine ⟨true, E_BadSides.exm SS, fun _ a ha => ?_, fun z => nomatch z⟩
        exact kE (fun hG => nsd hG.2.2) _ (s3.trans (made_same nx ndx kb))
      · intro sd no
        exact absurd ⟨gapsOf_nodup _ _, gapsOf_inb ⟨gr, ee, sd⟩⟩ no

end
end CF

set_option Elab.async false
set_option linter.all false
set_option maxRecDepth 100000
set_option maxHeartbeats 4000000
set_option hygiene false
/-! CFMarks: what a caught error is. -/
namespace CF
open PySem PySem.Spec PyProof.Rows L2
section
variable {P : Program} {Wd : World} {K : PySem.W.Frag} {mg : Str → Option Value} {base : Heap} {C cF c0 c1 c2 c3 c4 c5 D : Addr} {n : Nat}
abbrev s_L_marks_of : Stmt := top 23
abbrev n_L_marks_of : List Str := ["e", "marks"]
abbrev p_L_marks_of : List Str := ["e"]
theorem sc_L_marks_of : FnScope n_L_marks_of p_L_marks_of (defScope s_L_marks_of) := ⟨rfl, rfl, rfl, by decide +kernel, rfl, by decide +kernel, by decide +kernel⟩

def spMarksOf (n : Nat) : Addr → Sp := fun a vs H Q _ => vs = [.ref a] ∧ ∀ H' q, NewL BoolV H H' q (marksL n) → Q (.ref q) H'
theorem ok_marks_of (B : Bl mg) (E_BadSides : Ec K mg "BadSides" c0) (E_BadGap : Ec K mg "BadGap" c1) (E_NotOneGap : Ec K mg "NotOneGap" c2) (E_HasGaps : Ec K mg "HasGaps" c3) (E_TooMany : Ec K mg "TooMany" c4) (E_NoText : Ec K mg "NoText" c5)
    (M : Marks K cF c0 c1 c2 c3 c4 c5 D n) (f : Addr) (fd : FuncData) (F : Fun K "_law_marks_of" "_law_marks_of" s_L_marks_of f fd) : FnE P Wd K mg base 1 f fd p_L_marks_of (ZE D) (spMarksOf n) := by
  refine fn_ofE F sc_L_marks_of (fun a vs H Q E h => ?_) (fun cdv A outer s H vs Q p hz hr h => ?_)
  · obtain ⟨rfl, _⟩ := h
    rfl
  · obtain ⟨a, oe⟩ := p
    obtain ⟨rfl, q⟩ := h
    refine ⟨_,
      (pss_cons (ps_set (i := 1) sc_L_marks_of.nd rfl (by first | exact Or.inl rfl | exact Or.inr rfl) (pe_lst (pa_cons (pe_callB (call_isP K (by rfl) (by exact List.mem_cons_self) M.ex hz.1 hz.2) (by rfl) B.isinstance bt_isinstance (pa_cons (L2.pv 0) (pa_cons (pe_ec E_BadSides (by rfl)) pa_nil))) (pa_cons (pe_callB (call_isP K (by rfl) (by exact List.mem_cons_self) M.ex hz.1 hz.2) (by rfl) B.isinstance bt_isinstance (pa_cons (L2.pv 0) (pa_cons (pe_ec E_BadGap (by rfl)) pa_nil))) (pa_cons (pe_callB (call_isP K (by rfl) (by exact List.mem_cons_self) M.ex hz.1 hz.2) (by rfl) B.isinstance bt_isinstance (pa_cons (L2.pv 0) (pa_cons (pe_ec E_NotOneGap (by rfl)) pa_nil))) (pa_cons (pe_callB (call_isP K (by rfl) (by exact List.mem_cons_self) M.ex hz.1 hz.2) (by rfl) B.isinstance bt_isinstance (pa_cons (L2.pv 0) (pa_cons (pe_ec E_HasGaps (by rfl)) pa_nil))) pa_nil))))))
      (pss_one (ps_ret (pe_op op_cat (L2.pv 1) (pe_lst (pa_cons (pe_callB (call_isP K (by rfl) (by exact List.mem_cons_self) M.ex hz.1 hz.2) (by rfl) B.isinstance bt_isinstance (pa_cons (L2.pv 0) (pa_cons (pe_ec E_TooMany (by rfl)) pa_nil))) (pa_cons (pe_callB (call_isP K (by rfl) (by exact List.mem_cons_self) M.ex hz.1 hz.2) (by rfl) B.isinstance bt_isinstance (pa_cons (L2.pv 0) (pa_cons (pe_ec E_NoText (by rfl)) pa_nil))) (pa_cons (pe_not (pe_callB (call_isP K (by rfl) (by exact List.mem_cons_self) M.ex hz.1 hz.2) (by rfl) B.isinstance bt_isinstance (pa_cons (L2.pv 0) (pa_cons (pe_bltn (v := .ty "ValueError") (by rfl) B.ValueError bt_ValueError rfl) pa_nil)))) pa_nil)))))))), ?_⟩
    refine ⟨_, rfl, _, _, _, rfl, (fun u r => by cases r; rfl), M.k0, ?_⟩
    refine ⟨_, rfl, _, _, _, rfl, (fun u r => by cases r; rfl), M.k1, ?_⟩
    refine ⟨_, rfl, _, _, _, rfl, (fun u r => by cases r; rfl), M.k2, ?_⟩
    refine ⟨_, rfl, _, _, _, rfl, (fun u r => by cases r; rfl), M.k3, ?_⟩
    refine ⟨(by show 4 ≤ sizeLine; decide), fun l hl => ?_⟩
    refine ⟨_, rfl, ?_⟩
    refine ⟨_, rfl, _, _, _, rfl, (fun u r => by cases r; rfl), M.k4, ?_⟩
    refine ⟨_, rfl, _, _, _, rfl, (fun u r => by cases r; rfl), M.k5, ?_⟩
    refine ⟨_, rfl, _, _, _, rfl, (fun u r => by cases r; rfl), M.kv, _, rfl, ?_⟩
    refine ⟨(by show 3 ≤ sizeLine; decide), fun l2 hl2 => ?_⟩
    have n12 : l ≠ l2 := ne_of_none (H := upd H l _) upd_same hl2
    refine ⟨l, l2, _, _, rfl, rfl, (by rw [upd_ne n12]; exact upd_same), upd_same, (by show 7 ≤ sizeLine; decide), fun r hr => ?_⟩
    refine q _ _ ⟨((sameNew hl).trans (sameNew hl2)).trans (sameNew hr), ((sameNew hl).trans (sameNew hl2)).free hr, _, upd_same, ?_⟩
    exact .cons rfl (.cons rfl (.cons rfl (.cons rfl (.cons rfl (.cons rfl (.cons rfl .nil))))))
end
end CF

set_option Elab.async false
set_option linter.all false
set_option maxRecDepth 100000
set_option maxHeartbeats 4000000
set_option hygiene false
/-! CFSpoil: texts spoiled, what a text writes by the law. -/
namespace CF
open PySem PySem.Spec PyProof.Rows L2
local macro_rules | `(tactic| walk_at "rd") => `(tactic| repeat (first | refine ⟨_, rfl, ?_⟩ | refine ⟨_, _, rfl, rfl, ?_⟩ | refine ⟨.inl ⟨by decide, by decide⟩, ?_⟩ | refine ⟨⟨by decide, by decide⟩, ?_⟩ | refine ⟨by show (0 : Int) < _; decide, ?_⟩))
section
variable {P : Program} {Wd : World} {K : PySem.W.Frag} {mg : Str → Option Value} {base : Heap} {C : Addr}
theorem app_length (a b : Str) : (a ++ b).length = a.length + b.length := by
  show (a.cps ++ b.cps).size = _
  rw [Array.size_append]
  rfl
theorem atI_some {α : Type} (xs : List α) {i : Int} (h0 : 0 ≤ i) (h1 : i < xs.length) : ∃ x, atI xs i = some x ∧ x ∈ xs := by
  obtain ⟨n, rfl⟩ : ∃ n : Nat, i = (n : Int) := ⟨i.toNat, by omega⟩
  have hn : n < xs.length := by omega
  exact ⟨xs[n], atI_nat (List.getElem?_eq_getElem hn), List.getElem_mem hn⟩
theorem sum_le {ls : List Str} {m : Nat} (h : ∀ s ∈ ls, s.length ≤ m) : (ls.map (·.length)).sum ≤ ls.length * m := by
  induction ls with
  | nil => simp
  | cons a r ih =>
    rw [List.map_cons, List.sum_cons, List.length_cons, Nat.succ_mul]
    have h1 := h a List.mem_cons_self
    have h2 := ih fun s hs => h s (List.mem_cons_of_mem _ hs)
    omega
theorem ix_mod {z : Str} {n c : Int} {H : Hp} {Q : VK} (hl : decide ((z.cps.toList.length : Int) = n ∧ 0 < n) = true) (hz : z.length ≤ sizeLine) (q : ∀ s : Str, s.length ≤ 1 → Q (.str s) H) : rIxS (.str z) (.int (c % n)) H Q := by
  obtain ⟨h1, h2⟩ := of_decide_eq_true hl
  obtain ⟨x, hx, _⟩ := atI_some z.cps.toList (i := c % n) (Int.emod_nonneg c (by omega)) (by have := Int.emod_lt_of_pos c h2; omega)
  exact ⟨z, _, x, rfl, rfl, hz, hx, q _ (Nat.le_refl 1)⟩
def shortS (v : V) : Bool := match v with | .str u => decide (u.length ≤ 10) | _ => false
theorem ix_strs {K : PySem.W.Frag} {H : Hp} {l : Addr} {xs : List V} {n c : Int} {Q : VK} (hs : H l = some (.lst xs)) (hn : decide ((xs.length : Int) = n ∧ 0 < n) = true) (ha : xs.all shortS = true) (q : ∀ u : Str, u.length ≤ 10 → Q (.str u) H) : rIxL K (.ref l) (.int (c % n)) H Q := by
  obtain ⟨h1, h2⟩ := of_decide_eq_true hn
  obtain ⟨x, hx, hm⟩ := atI_some xs (i := c % n) (Int.emod_nonneg c (by omega)) (by have := Int.emod_lt_of_pos c h2; omega)
  have hx2 := List.all_eq_true.mp ha x hm
  cases x with
  | str u => exact ⟨l, xs, _, _, rfl, rfl, SqL.of hs, hx, q u (of_decide_eq_true hx2)⟩
  | _ => cases hx2
theorem cut_map (ls : List Str) (lo hi : Option Int) : ∃ m : List Str, cutV (ls.map V.str) lo hi = m.map V.str ∧ m.length ≤ ls.length ∧ ∀ s ∈ m, s ∈ ls := by
  unfold cutV
  refine ⟨(ls.drop (HT.sIx (ls.map V.str).length 0 lo)).take (HT.sIx (ls.map V.str).length (ls.map V.str).length hi - HT.sIx (ls.map V.str).length 0 lo), by rw [List.map_take, List.map_drop], ?_, fun s hs => List.mem_of_mem_drop (List.mem_of_mem_take hs)⟩
  rw [List.length_take, List.length_drop]
  omega
theorem join_room {ys : List Str} {a : Str} (ha : a.length ≤ 1) (h1 : ys.length ≤ 40) (h2 : ∀ s ∈ ys, s.length ≤ 40) : (ys.map (·.length)).sum + ys.length * a.length ≤ 1640 ∧ (Txt.join a ys).length ≤ 1640 := by
  have e1 := sum_le h2
  have e2 : ys.length * 40 ≤ 40 * 40 := Nat.mul_le_mul h1 (Nat.le_refl _)
  have e3 : ys.length * a.length ≤ 40 * 1 := Nat.mul_le_mul h1 ha
  refine ⟨by omega, ?_⟩
  rw [show Txt.join a ys = Str.join a ys from StrLaws.glued_eq_join a ys]
  have := StrLaws.join_length_le a ys
  omega

abbrev s_L_sign_by : Stmt := top 24
abbrev n_L_sign_by : List Str := ["cell", "some"]
abbrev p_L_sign_by : List Str := ["cell"]
theorem sc_L_sign_by : FnScope n_L_sign_by p_L_sign_by (defScope s_L_sign_by) := ⟨rfl, rfl, rfl, by decide +kernel, rfl, by decide +kernel, by decide +kernel⟩

def spSignBy : Sp := fun vs H Q _ => ∃ c : Int, vs = [.int c] ∧ ∀ s : Str, s.length ≤ 1 → Q (.str s) H
theorem ok_sign_by (f : Addr) (fd : FuncData) (F : Fun K "_law_sign_by" "_law_sign_by" s_L_sign_by f fd) : FnOk P Wd K mg base CX0 1 f fd p_L_sign_by spSignBy := by
  refine F.ok sc_L_sign_by (fun vs H Q E h => ?_) (fun cdv A outer s H vs Q E hr h => ?_)
  · obtain ⟨c, rfl, _⟩ := h
    rfl
  · obtain ⟨c, rfl, q⟩ := h
    refine ⟨_,
      (pss_cons (ps_set (i := 1) sc_L_sign_by.nd rfl (by first | exact Or.inl rfl | exact Or.inr rfl) pe_str)
      (pss_cons (ps_set (i := 1) sc_L_sign_by.nd rfl (by first | exact Or.inl rfl | exact Or.inr rfl) (pe_op op_add_str (L2.pv 1) pe_str))
      (pss_one (ps_ret (pe_ix (by exact ix_str) (L2.pv 1) (pe_op op_mod (L2.pv 0) pe_int) (fun _ _ => rfl)))))), ?_⟩
    refine ⟨_, rfl, _, _, rfl, rfl, (by decide +kernel), ?_⟩
    refine ⟨_, rfl, _, rfl, _, _, rfl, rfl, (by show (0 : Int) < 94; decide), ?_⟩
    exact ix_mod (by decide +kernel) (by decide +kernel) q

abbrev s_L_spoiled : Stmt := top 25
abbrev n_L_spoiled : List Str := ["text", "cell", "place", "rest", "ahead", "way", "sign", "lines", "at"]
abbrev p_L_spoiled : List Str := ["text", "cell"]
theorem sc_L_spoiled : FnScope n_L_spoiled p_L_spoiled (defScope s_L_spoiled) := ⟨rfl, rfl, rfl, by decide +kernel, rfl, by decide +kernel, by decide +kernel⟩

def spSpoiled : Sp := fun vs H Q _ => ∃ (w h c : Int) (g : List Cell), vs = [.str (strOf (textL g w.toNat h.toNat)), .int c] ∧ Sides w h ∧ ∀ (H' : Hp) (r : Str), Same H H' → r.length ≤ 2000 → Q (.str r) H'
theorem ok_spoiled (B : Bl mg) (D_L_sign_by : Df P Wd K mg base "_law_sign_by" 1 p_L_sign_by spSignBy) (f : Addr) (fd : FuncData) (F : Fun K "_law_spoiled" "_law_spoiled" s_L_spoiled f fd) : FnOk P Wd K mg base CX0 2 f fd p_L_spoiled spSpoiled := by
  refine F.ok sc_L_spoiled (fun vs H Q E h => ?_) (fun cdv A outer s H vs Q E hr h => ?_)
  · obtain ⟨w, h, c, g, rfl, _⟩ := h
    rfl
  · obtain ⟨w, h, c, g, rfl, sd, q⟩ := h
    have hT := room_text sd (Nat.le_refl _) g
    have hsp := split_text g w.toNat h.toNat
    have hls : (Txt.split (strOf (textL g w.toNat h.toNat)) (strOf [10])).length = h.toNat + 1 := by rw [hsp]; simp
    have hlr : ∀ s ∈ Txt.split (strOf (textL g w.toNat h.toNat)) (strOf [10]), s.length ≤ 16 := by
      intro s hs
      rw [hsp] at hs
      rcases List.mem_append.mp hs with hs | hs
      · obtain ⟨y, _, rfl⟩ := List.mem_map.mp hs
        rw [strOf_length, rowL_length]
        have := sd.2.1
        omega
      · have : s = strOf [] := by simpa using hs
        subst this
        exact Nat.zero_le _
    obtain ⟨s1, s2, s3, s4⟩ := id sd
    have hT2 : (strOf (textL g w.toNat h.toNat)).length ≤ 300 := by rw [strOf_length]; exact hT
    generalize hTt : strOf (textL g w.toNat h.toNat) = T at *
    have hTr : T.length ≤ sizeLine := line_room (by omega)
    refine ⟨_,
      (pss_cons (ps_set (i := 2) sc_L_spoiled.nd rfl (by first | exact Or.inl rfl | exact Or.inr rfl) (pe_op op_mod (pe_op op_fdiv (L2.pv 1) pe_int) (pe_op op_add (pe_callB call_len_str (by rfl) B.len bt_len (pa_cons (L2.pv 0) pa_nil)) pe_int)))
      (pss_cons (ps_set (i := 3) sc_L_spoiled.nd rfl (by first | exact Or.inl rfl | exact Or.inr rfl) (pe_op op_fdiv (pe_op op_fdiv (L2.pv 1) pe_int) (pe_op op_add (pe_callB call_len_str (by rfl) B.len bt_len (pa_cons (L2.pv 0) pa_nil)) pe_int)))
      (pss_cons (ps_set (i := 4) sc_L_spoiled.nd rfl (by first | exact Or.inl rfl | exact Or.inr rfl) (pe_slice sl_str (L2.pv 0) po_none (po_some (L2.pv 2))))
      (pss_cons (ps_set (i := 5) sc_L_spoiled.nd rfl (by first | exact Or.inl rfl | exact Or.inr rfl) (pe_op op_mod (L2.pv 1) pe_int))
      (pss_cons (ps_set (i := 6) sc_L_spoiled.nd rfl (by first | exact Or.inl rfl | exact Or.inr rfl) (pe_cl (by exact D_L_sign_by) (by exact hr.mono (by decide)) (pa_cons (pe_op op_fdiv (L2.pv 3) pe_int) pa_nil)))
      (pss_cons (ps_cut (ps_if (pt_cmpR op_lt (pe_op op_mod (L2.pv 3) pe_int) pe_int (nomark _))
        (pss_one (ps_set (i := 6) sc_L_spoiled.nd rfl (by first | exact Or.inl rfl | exact Or.inr rfl) (pe_ixLK K (by rfl) (pe_lst (pa_cons pe_str (pa_cons pe_str (pa_cons pe_str (pa_cons pe_str pa_nil))))) (pe_op op_mod (pe_op op_fdiv (L2.pv 3) pe_int) pe_int) (fun _ _ => rfl))))
        pss_nil))
      (pss_cons (ps_set (i := 7) sc_L_spoiled.nd rfl (by first | exact Or.inl rfl | exact Or.inr rfl) (pe_split (L2.pv 0) pe_str))
      (pss_cons (ps_set (i := 8) sc_L_spoiled.nd rfl (by first | exact Or.inl rfl | exact Or.inr rfl) (pe_op op_mod (L2.pv 3) (pe_op op_sub (pe_callB (cr_len K (by rfl)) (by rfl) B.len bt_len (pa_cons (L2.pv 7) pa_nil)) pe_int)))
      (pss_cons (ps_if (pt_cmpR op_lt (L2.pv 5) pe_int (nomark _))
        (pss_one (ps_ret (pe_op op_add_str (pe_op op_add_str (L2.pv 4) (L2.pv 6)) (pe_slice sl_str (L2.pv 0) (po_some (L2.pv 2)) po_none))))
        pss_nil)
      (pss_cons (ps_if (pt_cmpR op_eq (L2.pv 5) pe_int (nomark _))
        (pss_one (ps_ret (pe_op op_add_str (pe_op op_add_str (L2.pv 4) (L2.pv 6)) (pe_slice sl_str (L2.pv 0) (po_some (pe_op op_add (L2.pv 2) pe_int)) po_none))))
        pss_nil)
      (pss_cons (ps_if (pt_cmpR op_eq (L2.pv 5) pe_int (nomark _))
        (pss_one (ps_ret (pe_op op_add_str (L2.pv 4) (pe_slice sl_str (L2.pv 0) (po_some (pe_op op_add (L2.pv 2) pe_int)) po_none))))
        pss_nil)
      (pss_cons (ps_if (pt_cmpR op_eq (L2.pv 5) pe_int (nomark _))
        (pss_one (ps_ret (pe_join pe_str (pe_op op_cat (pe_op op_cat (pe_slice (sl_lK K (by rfl)) (L2.pv 7) po_none (po_some (L2.pv 8))) (pe_lst (pa_cons (pe_ixLK K (by rfl) (L2.pv 7) (L2.pv 8) (fun _ _ => rfl)) pa_nil))) (pe_slice (sl_lK K (by rfl)) (L2.pv 7) (po_some (L2.pv 8)) po_none)))))
        pss_nil)
      (pss_cons (ps_if (pt_cmpR op_eq (L2.pv 5) pe_int (nomark _))
        (pss_one (ps_ret (pe_join pe_str (pe_op op_cat (pe_slice (sl_lK K (by rfl)) (L2.pv 7) po_none (po_some (L2.pv 8))) (pe_slice (sl_lK K (by rfl)) (L2.pv 7) (po_some (pe_op op_add (L2.pv 8) pe_int)) po_none)))))
        pss_nil)
      (pss_cons (ps_if (pt_cmpR op_eq (L2.pv 5) pe_int (nomark _))
        (pss_one (ps_ret (pe_op op_rep_str (pe_op op_add_str (pe_op op_rep_str pe_str (pe_op op_add pe_int (pe_op op_mod (L2.pv 3) pe_int))) pe_str) (pe_op op_add pe_int (pe_op op_mod (pe_op op_fdiv (L2.pv 3) pe_int) pe_int)))))
        pss_nil)
      (pss_cons (ps_if (pt_cmpR op_eq (L2.pv 5) pe_int (nomark _))
        (pss_one (ps_ret (pe_op op_rep_str (pe_op op_add_str pe_str pe_str) (pe_op op_add pe_int (pe_op op_mod (L2.pv 3) pe_int)))))
        pss_nil)
      (pss_cons (ps_if (pt_cmpR op_eq (L2.pv 5) pe_int (nomark _))
        (pss_one (ps_ret (pe_slice sl_str (L2.pv 0) po_none (po_some (pe_un un_neg pe_int)))))
        pss_nil)
      (pss_one (ps_ret (pe_ixLK K (by rfl) (pe_lst (pa_cons pe_str (pa_cons pe_str (pa_cons pe_str (pa_cons pe_str (pa_cons pe_str (pa_cons pe_str (pa_cons pe_str (pa_cons pe_str pa_nil))))))))) (pe_op op_mod (L2.pv 3) pe_int) (fun _ _ => rfl)))))))))))))))))))), ?_⟩
    walk_at "rd"
    refine ⟨hTr, ?_⟩
    walk_at "rd"
    refine ⟨by show (0 : Int) < _; omega, ?_⟩
    have p0 := Int.emod_nonneg (c / 10) (by omega : (T.length : Int) + 1 ≠ 0)
    have p1 := Int.emod_lt_of_pos (c / 10) (by omega : (0 : Int) < (T.length : Int) + 1)
    walk_at "rd"
    refine ⟨hTr, ?_⟩
    walk_at "rd"
    refine ⟨⟨by omega, by omega⟩, ?_⟩
    walk_at "rd"
    refine ⟨hTr, ?_⟩
    walk_at "rd"
    refine fun sg hsg => ?_
    have hcl : (cutS T none (some (c / 10 % ((T.length : Int) + 1)))).length ≤ 300 := Nat.le_trans (cutS_length _ _ _) hT2
    refine ⟨fun σ' H' => Same H H' ∧ ∃ sg : Str, sg.length ≤ 1 ∧ σ' = [some (.str T), some (.int c), some (.int (c / 10 % ((T.length : Int) + 1))), some (.int (c / 10 / ((T.length : Int) + 1))), some (.str (cutS T none (some (c / 10 % ((T.length : Int) + 1))))), some (.int (c % 10)), some (.str sg), none, none], ?_, ?_⟩
    · walk_at "rd"
      refine iteD (fun _ => ?_) (fun _ => ?_)
      · refine ⟨(by show 4 ≤ sizeLine; decide), fun l hl => ?_⟩
        walk_at "rd"
        have r0 := Int.emod_nonneg (c / 10 / ((T.length : Int) + 1) / 4) (by decide : (4 : Int) ≠ 0)
        have r1 := Int.emod_lt_of_pos (c / 10 / ((T.length : Int) + 1) / 4) (by decide : (0 : Int) < 4)
        obtain ⟨x, hx, hm⟩ := atI_some [V.str "#", V.str ".", V.str "\n", V.str "\t"] (i := c / 10 / ((T.length : Int) + 1) / 4 % 4) r0 r1
        have hx2 : ∃ u : Str, x = .str u ∧ u.length ≤ 1 := by
          simp only [List.mem_cons, List.not_mem_nil, or_false] at hm
          rcases hm with rfl | rfl | rfl | rfl
          · exact ⟨_, rfl, by decide +kernel⟩
          · exact ⟨_, rfl, by decide +kernel⟩
          · exact ⟨_, rfl, by decide +kernel⟩
          · exact ⟨_, rfl, by decide +kernel⟩
        obtain ⟨u, rfl, hu1⟩ := hx2
        exact ⟨l, _, _, _, rfl, rfl, SqL.of upd_same, hx, sameNew hl, u, hu1, rfl⟩
      · exact ⟨Same.refl _, sg, hsg, rfl⟩
    · rintro σ' H1 ⟨s5, sg, hsg, rfl⟩
      rw [nl_is]
      refine ⟨_, rfl, ⟨_, rfl⟩, _, _, rfl, rfl, (by decide), line_room (show T.length + 2 ≤ 1000000 by omega), fun p hp => ?_⟩
      generalize Txt.split T (strOf [10]) = ls at *
      generalize hH : upd H1 p _ = H2
      have s6 : Same H H2 := by rw [← hH]; exact s5.trans (sameNew hp)
      have lp : H2 p = some (.lst (ls.map V.str)) := by rw [← hH]; exact upd_same
      clear hH
      generalize cutS T none (some (c / 10 % ((T.length : Int) + 1))) = ah at *
      generalize c / 10 % ((T.length : Int) + 1) = pl at *
      generalize c / 10 / ((T.length : Int) + 1) = re at *
      have hlm : (ls.map V.str).length = h.toNat + 1 := by rw [List.length_map, hls]
      have a0 := Int.emod_nonneg re (by omega : ((ls.map V.str).length : Int) - 1 ≠ 0)
      have a1 := Int.emod_lt_of_pos re (by omega : (0 : Int) < ((ls.map V.str).length : Int) - 1)
      refine ⟨_, rfl, _, rfl, p, _, rfl, .inl (SqL.of lp), _, _, rfl, rfl, _, _, rfl, rfl, (by show (0 : Int) < _; omega), ?_⟩
      have hT3 : ∀ lo hi, (cutS T lo hi).length ≤ 300 := fun lo hi => Nat.le_trans (cutS_length T lo hi) hT2
      -- ahead + sign + text[place:]
      refine ⟨_, rfl, _, _, rfl, rfl, _, rfl, iteD (fun _ => ?_) (fun _ => ?_)⟩
      · refine ⟨_, rfl, _, rfl, _, _, rfl, rfl, line_room (by omega), _, rfl, _, rfl, _, rfl, T, rfl, hTr, _, _, rfl, rfl, ?_, q _ _ s6 ?_⟩
        · have := hT3 (some pl) none
          rw [app_length]
          exact line_room (by omega)
        · have := hT3 (some pl) none
          rw [app_length, app_length]
          omega
      refine ⟨_, rfl, rfl, _, rfl, iteB (fun _ => ?_) (fun _ => ?_)⟩
      · refine ⟨_, rfl, _, rfl, _, _, rfl, rfl, line_room (by omega), _, rfl, _, rfl, _, _, rfl, rfl, _, rfl, T, rfl, hTr, _, _, rfl, rfl, ?_, q _ _ s6 ?_⟩
        · have := hT3 (some (pl + 1)) none
          rw [app_length]
          exact line_room (by omega)
        · have := hT3 (some (pl + 1)) none
          rw [app_length, app_length]
          omega
      refine ⟨_, rfl, rfl, _, rfl, iteB (fun _ => ?_) (fun _ => ?_)⟩
      · refine ⟨_, rfl, _, rfl, _, rfl, _, _, rfl, rfl, _, rfl, T, rfl, hTr, _, _, rfl, rfl, ?_, q _ _ s6 ?_⟩
        · have := hT3 (some (pl + 1)) none
          exact line_room (by omega)
        · have := hT3 (some (pl + 1)) none
          rw [app_length]
          omega
      refine ⟨_, rfl, rfl, _, rfl, iteB (fun _ => ?_) (fun _ => ?_)⟩
      · refine ⟨⟨_, rfl⟩, _, rfl, _, rfl, _, rfl, p, _, rfl, SqL.of lp, fun p1 hp1 => ?_⟩
        obtain ⟨m1, em1, lm1, hm1⟩ := cut_map ls none (some (re % (((ls.map V.str).length : Int) - 1)))
        rw [em1]
        generalize hH : upd H2 p1 _ = H3
        have s7 : Same H2 H3 := by rw [← hH]; exact sameNew hp1
        have l1 : H3 p1 = some (.lst (m1.map V.str)) := by rw [← hH]; exact upd_same
        clear hH
        obtain ⟨x, hx, hxm⟩ := atI_some (ls.map V.str) a0 (by omega)
        obtain ⟨xs, hxs, rfl⟩ := List.mem_map.mp hxm
        refine ⟨_, rfl, _, rfl, p, _, _, _, rfl, rfl, SqL.of (s7 _ _ lp), hx, (by show 1 ≤ sizeLine; decide), fun p2 hp2 => ?_⟩
        generalize hH : upd H3 p2 _ = H4
        have s8 : Same H3 H4 := by rw [← hH]; exact sameNew hp2
        have l2 : H4 p2 = some (.lst [V.str xs]) := by rw [← hH]; exact upd_same
        clear hH
        refine ⟨p1, p2, _, _, rfl, rfl, s8 _ _ l1, l2, ?_, fun p3 hp3 => ?_⟩
        · rw [List.length_map]; exact line_room (show m1.length + 1 ≤ 1000000 by omega)
        generalize hH : upd H4 p3 _ = H5
        have s9 : Same H4 H5 := by rw [← hH]; exact sameNew hp3
        have l3 : H5 p3 = some (.lst (m1.map V.str ++ [V.str xs])) := by rw [← hH]; exact upd_same
        clear hH
        have s10 : Same H2 H5 := (s7.trans s8).trans s9
        refine ⟨_, rfl, _, rfl, _, rfl, p, _, rfl, SqL.of (s10 _ _ lp), fun p4 hp4 => ?_⟩
        obtain ⟨m2, em2, lm2, hm2⟩ := cut_map ls (some (re % (((ls.map V.str).length : Int) - 1))) none
        rw [em2]
        generalize hH : upd H5 p4 _ = H6
        have s11 : Same H5 H6 := by rw [← hH]; exact sameNew hp4
        have l4 : H6 p4 = some (.lst (m2.map V.str)) := by rw [← hH]; exact upd_same
        clear hH
        refine ⟨p3, p4, _, _, rfl, rfl, s11 _ _ l3, l4, ?_, fun p5 hp5 => ?_⟩
        · rw [List.length_append, List.length_map, List.length_map]; exact line_room (show m1.length + 1 + m2.length ≤ 1000000 by omega)
        have hj := join_room (ys := m1 ++ [xs] ++ m2) (a := strOf [10]) (Nat.le_refl 1) (by rw [List.length_append, List.length_append, List.length_singleton]; omega) (fun s hs => by
          rcases List.mem_append.mp hs with hs | hs
          · rcases List.mem_append.mp hs with hs | hs
            · have := hlr s (hm1 s hs); omega
            · rw [List.mem_singleton.mp hs]; have := hlr xs hxs; omega
          · have := hlr s (hm2 s hs); omega)
        refine ⟨_, p5, m1 ++ [xs] ++ m2, rfl, rfl, .inl (SqL.of ?_), Nat.le_trans hj.1 (by decide), q _ _ (((s6.trans s10).trans s11).trans (sameNew hp5)) (Nat.le_trans hj.2 (by decide))⟩
        rw [upd_same, List.map_append, List.map_append]
        rfl
      refine ⟨_, rfl, rfl, _, rfl, iteB (fun _ => ?_) (fun _ => ?_)⟩
      · refine ⟨⟨_, rfl⟩, _, rfl, _, rfl, _, rfl, p, _, rfl, SqL.of lp, fun p1 hp1 => ?_⟩
        obtain ⟨m1, em1, lm1, hm1⟩ := cut_map ls none (some (re % (((ls.map V.str).length : Int) - 1)))
        rw [em1]
        generalize hH : upd H2 p1 _ = H3
        have s7 : Same H2 H3 := by rw [← hH]; exact sameNew hp1
        have l1 : H3 p1 = some (.lst (m1.map V.str)) := by rw [← hH]; exact upd_same
        clear hH
        refine ⟨_, rfl, _, rfl, _, _, rfl, rfl, _, rfl, p, _, rfl, SqL.of (s7 _ _ lp), fun p4 hp4 => ?_⟩
        obtain ⟨m2, em2, lm2, hm2⟩ := cut_map ls (some (re % (((ls.map V.str).length : Int) - 1) + 1)) none
        rw [em2]
        generalize hH : upd H3 p4 _ = H6
        have s11 : Same H3 H6 := by rw [← hH]; exact sameNew hp4
        have l4 : H6 p4 = some (.lst (m2.map V.str)) := by rw [← hH]; exact upd_same
        clear hH
        refine ⟨p1, p4, _, _, rfl, rfl, s11 _ _ l1, l4, ?_, fun p5 hp5 => ?_⟩
        · rw [List.length_map, List.length_map]; exact line_room (show m1.length + m2.length ≤ 1000000 by omega)
        have hj := join_room (ys := m1 ++ m2) (a := strOf [10]) (Nat.le_refl 1) (by rw [List.length_append]; omega) (fun s hs => by
          rcases List.mem_append.mp hs with hs | hs
          · have := hlr s (hm1 s hs); omega
          · have := hlr s (hm2 s hs); omega)
        refine ⟨_, p5, m1 ++ m2, rfl, rfl, .inl (SqL.of ?_), Nat.le_trans hj.1 (by decide), q _ _ (((s6.trans s7).trans s11).trans (sameNew hp5)) (Nat.le_trans hj.2 (by decide))⟩
        rw [upd_same, List.map_append]
      have w0 := Int.emod_nonneg re (by decide : (4 : Int) ≠ 0)
      have w1 := Int.emod_lt_of_pos re (by decide : (0 : Int) < 4)
      have w2 := Int.emod_nonneg (re / 4) (by decide : (3 : Int) ≠ 0)
      have w3 := Int.emod_lt_of_pos (re / 4) (by decide : (0 : Int) < 3)
      refine ⟨_, rfl, rfl, _, rfl, iteB (fun _ => ?_) (fun _ => ?_)⟩
      · refine ⟨_, rfl, _, _, rfl, rfl, (by show (0 : Int) < 4; decide), _, _, rfl, rfl, _, _, rfl, rfl, (by omega), (by omega), (by decide +kernel), fun r1 hr1 => ?_⟩
        have hb1 : r1.length ≤ 1 * 18 := Nat.le_trans hr1 (Nat.mul_le_mul (by decide +kernel) (by omega))
        refine ⟨_, _, rfl, rfl, line_room (by rw [strOf_length]; show r1.length + 1 ≤ 1000000; omega), ?_⟩
        refine ⟨_, rfl, _, _, rfl, rfl, ⟨by decide, by decide⟩, _, _, rfl, rfl, (by show (0 : Int) < 3; decide), _, _, rfl, rfl, _, _, rfl, rfl, (by omega), (by omega), ?_, fun r2 hr2 => q _ _ s6 ?_⟩
        · rw [app_length, strOf_length]; show r1.length + 1 ≤ 1000; omega
        · rw [app_length, strOf_length] at hr2
          have : (r1.length + 1) * (1 + re / 4 % 3).toNat ≤ 19 * 3 := Nat.mul_le_mul (by omega) (by omega)
          exact Nat.le_trans hr2 (Nat.le_trans this (by decide))
      refine ⟨_, rfl, rfl, _, rfl, iteB (fun _ => ?_) (fun _ => ?_)⟩
      · refine ⟨_, _, rfl, rfl, (by decide +kernel), ?_⟩
        refine ⟨_, rfl, _, _, rfl, rfl, (by show (0 : Int) < 4; decide), _, _, rfl, rfl, _, _, rfl, rfl, (by omega), (by omega), (by decide +kernel), fun r2 hr2 => q _ _ s6 ?_⟩
        have hk := Nat.mul_le_mul (show (Str.ofString "#." ++ strOf [10]).length ≤ 3 by decide +kernel) (show (15 + re % 4).toNat ≤ 18 by omega)
        exact Nat.le_trans hr2 (Nat.le_trans hk (by decide))
      refine ⟨_, rfl, rfl, _, rfl, iteB (fun _ => ?_) (fun _ => ?_)⟩
      · refine ⟨_, rfl, _, rfl, _, rfl, T, rfl, hTr, q _ _ s6 ?_⟩
        have := hT3 none (some (-1))
        exact Nat.le_trans this (by decide)
      refine ⟨(by show 8 ≤ sizeLine; decide), fun l hl => ?_⟩
      have v0 := Int.emod_nonneg re (by decide : (8 : Int) ≠ 0)
      have v1 := Int.emod_lt_of_pos re (by decide : (0 : Int) < 8)
      refine ⟨_, rfl, _, _, rfl, rfl, (by show (0 : Int) < 8; decide), ?_⟩
      exact ix_strs (n := 8) upd_same (by decide) (by decide +kernel) fun u hu => q _ _ (s6.trans (sameNew hl)) (Nat.le_trans hu (by decide))

abbrev s_L_due : Stmt := top 26
abbrev n_L_due : List Str := ["text", "lines", "gaps", "y", "x"]
abbrev p_L_due : List Str := ["text"]
theorem sc_L_due : FnScope n_L_due p_L_due (defScope s_L_due) := ⟨rfl, rfl, rfl, by decide +kernel, rfl, by decide +kernel, by decide +kernel⟩

def spDue : Sp := fun vs H Q _ => ∃ t : Str, vs = [.str t] ∧ t.length ≤ 2000 ∧
  (GoodT (Txt.split t (strOf [10])) → ∀ H' tq q, Same H H' → H' tq = some (.tup [.int ((rowAt (Txt.split t (strOf [10])) 0).length : Int), .int (((Txt.split t (strOf [10])).length - 1 : Nat) : Int), .ref q]) →
    LsA CellV H' q (gapsOf (Txt.split t (strOf [10])) ((Txt.split t (strOf [10])).length - 1)) → Q (.ref tq) H') ∧
  (¬ GoodT (Txt.split t (strOf [10])) → ∀ H', Same H H' → Q .non H')
theorem ok_due (B : Bl mg) (f : Addr) (fd : FuncData) (F : Fun K "_law_due" "_law_due" s_L_due f fd) : FnOk P Wd K mg base CX0 1 f fd p_L_due spDue := by
  refine F.ok sc_L_due (fun vs H Q E h => ?_) (fun cdv A outer s H vs Q E hr h => ?_)
  · obtain ⟨t, rfl, _⟩ := h
    rfl
  · obtain ⟨t, rfl, hlen, k, kE⟩ := h
    refine ⟨_,
      (pss_cons (ps_set (i := 1) sc_L_due.nd rfl (by first | exact Or.inl rfl | exact Or.inr rfl) (pe_split (L2.pv 0) pe_str))
      (pss_cons (ps_if (PW.pt (pw_or (pt_cmpR op_ne (pe_ixLK K (by rfl) (L2.pv 1) (pe_un un_neg pe_int) (fun _ _ => rfl)) pe_str (nomark _)) (pw_or (pt_cmpR op_lt (pe_callB (cr_len K (by rfl)) (by rfl) B.len bt_len (pa_cons (L2.pv 1) pa_nil)) pe_int (nomark _)) (pw_or (pt_cmpR op_gt (pe_callB (cr_len K (by rfl)) (by rfl) B.len bt_len (pa_cons (L2.pv 1) pa_nil)) pe_int (nomark _)) (pw_or (pt_cmpR op_lt (pe_callB call_len_str (by rfl) B.len bt_len (pa_cons (pe_ixLK K (by rfl) (L2.pv 1) pe_int (fun _ _ => rfl)) pa_nil)) pe_int (nomark _)) (pw_or1 (pt_cmpR op_gt (pe_callB call_len_str (by rfl) B.len bt_len (pa_cons (pe_ixLK K (by rfl) (L2.pv 1) pe_int (fun _ _ => rfl)) pa_nil)) pe_int (nomark _))))))))
        (pss_one (ps_ret pe_non))
        pss_nil)
      (pss_cons (ps_set (i := 2) sc_L_due.nd rfl (by first | exact Or.inl rfl | exact Or.inr rfl) (pe_lst pa_nil))
      (pss_cons (ps_for PassesOwn.never (by rfl) (pi_range1 (by rfl) B.range (pa_cons (pe_op op_sub (pe_callB (cr_len K (by rfl)) (by rfl) B.len bt_len (pa_cons (L2.pv 1) pa_nil)) pe_int) pa_nil)) (pg_name (i := 3) sc_L_due.nd rfl (by first | exact Or.inl rfl | exact Or.inr rfl))
        (pss_cons (ps_if (pt_cmpR op_ne (pe_callB call_len_str (by rfl) B.len bt_len (pa_cons (pe_ixLK K (by rfl) (L2.pv 1) (L2.pv 3) (fun _ _ => rfl)) pa_nil)) (pe_callB call_len_str (by rfl) B.len bt_len (pa_cons (pe_ixLK K (by rfl) (L2.pv 1) pe_int (fun _ _ => rfl)) pa_nil)) (nomark _))
           (pss_one (ps_ret pe_non))
           pss_nil)
         (pss_one (ps_for PassesOwn.never (by rfl) (pi_range1 (by rfl) B.range (pa_cons (pe_callB call_len_str (by rfl) B.len bt_len (pa_cons (pe_ixLK K (by rfl) (L2.pv 1) (L2.pv 3) (fun _ _ => rfl)) pa_nil)) pa_nil)) (pg_name (i := 4) sc_L_due.nd rfl (by first | exact Or.inl rfl | exact Or.inr rfl))
           (pss_one (ps_if (pt_cmpR op_eq (pe_ix (by exact ix_str) (pe_ixLK K (by rfl) (L2.pv 1) (L2.pv 3) (fun _ _ => rfl)) (L2.pv 4) (fun _ _ => rfl)) pe_str (nomark _))
              (pss_one (ps_expr (pe_bmK K (by rfl) PySem.F.plainAttrs_list PySem.F.slot_list_append PySem.F.type_list_append mt_append (L2.pv 2) (pa_cons (pe_tup (pa_cons (L2.pv 4) (pa_cons (L2.pv 3) pa_nil))) pa_nil))))
              (pss_one (ps_if (pt_cmpR op_ne (pe_ix (by exact ix_str) (pe_ixLK K (by rfl) (L2.pv 1) (L2.pv 3) (fun _ _ => rfl)) (L2.pv 4) (fun _ _ => rfl)) pe_str (nomark _))
                 (pss_one (ps_ret pe_non))
                 pss_nil))))))))
      (pss_one (ps_ret (pe_tup (pa_cons (pe_callB call_len_str (by rfl) B.len bt_len (pa_cons (pe_ixLK K (by rfl) (L2.pv 1) pe_int (fun _ _ => rfl)) pa_nil)) (pa_cons (pe_op op_sub (pe_callB (cr_len K (by rfl)) (by rfl) B.len bt_len (pa_cons (L2.pv 1) pa_nil)) pe_int) (pa_cons (L2.pv 2) pa_nil)))))))))), ?_⟩
    rw [nl_is, gap_is, dot_is, empty_is]
    have hr0 := rowAt_le t
    have hpos := split_pos t (strOf [10])
    refine ⟨_, rfl, ⟨_, rfl⟩, _, _, rfl, rfl, (by decide), line_room (show t.length + 2 ≤ 1000000 by omega), fun p hp => ?_⟩
    generalize Txt.split t (strOf [10]) = ls at hp hr0 hpos k kE ⊢
    have hr1 := (hr0 0).2
    generalize hH : upd H p _ = H1
    have s1 : Same H H1 := by rw [← hH]; exact sameNew hp
    have lp1 : H1 p = some (.lst (ls.map V.str)) := by rw [← hH]; exact upd_same
    clear hH
    have hget : ∀ y, y < ls.length → (ls.map V.str)[y]? = some (.str (strOf (rowAt ls y))) := fun y hy => by
      rw [List.getElem?_map, List.getElem?_eq_getElem hy]
      unfold rowAt
      rw [List.getElem?_eq_getElem hy]
      show some (V.str ls[y]) = some (V.str (strOf ls[y].cps.toList))
      rw [strOf_of]
    have hN : (((ls.map V.str).length : Nat) : Int) - 1 = ((ls.length - 1 : Nat) : Int) := by rw [List.length_map]; omega
    have hrl : ∀ y, (strOf (rowAt ls y)).length ≤ sizeLine := fun y => by rw [strOf_length]; exact line_room (by have := (hr0 y).1; omega)
    have hlast : atI (ls.map V.str) (-1) = some (.str (strOf (rowAt ls (ls.length - 1)))) := by
      have h1 := hget (ls.length - 1) (by omega)
      have h2 : ls.map V.str = (ls.map V.str).take (ls.length - 1) ++ [.str (strOf (rowAt ls (ls.length - 1)))] := by
        have h3 : (ls.map V.str).take (ls.length - 1 + 1) = ls.map V.str := List.take_of_length_le (by rw [List.length_map]; omega)
        rw [List.take_add_one, h1] at h3
        exact h3.symm
      rw [h2]
      exact atI_last _ _
    refine ⟨_, rfl, _, rfl, p, _, _, _, rfl, rfl, SqL.of lp1, hlast, rfl, _, rfl, iteB (fun e => ?_) (fun e => ?_)⟩
    · refine kE (fun hG => ?_) _ s1
      rw [hG.2.1] at e
      simp at e
    have ee : rowAt ls (ls.length - 1) = [] := (str_eq _ []).mp (of_decide_eq_true (by simpa using e))
    refine ⟨_, rfl, p, _, rfl, .inl (SqL.of lp1), _, _, rfl, rfl, _, rfl, ?_⟩
    rw [List.length_map]
    refine iteD (fun e => kE (fun hG => ?_) _ s1) (fun l1 => ?_)
    · obtain ⟨q1, q2, q3, q4⟩ := hG.2.2
      omega
    refine ⟨_, rfl, p, _, rfl, .inl (SqL.of lp1), _, _, rfl, rfl, _, rfl, ?_⟩
    rw [List.length_map]
    refine iteD (fun e => kE (fun hG => ?_) _ s1) (fun l2 => ?_)
    · obtain ⟨q1, q2, q3, q4⟩ := hG.2.2
      omega
    refine ⟨_, rfl, p, _, _, _, rfl, rfl, SqL.of lp1, atI_nat (j := 0) (hget 0 (by omega)), _, rfl, hrl 0, _, _, rfl, rfl, _, rfl, ?_⟩
    rw [strOf_length]
    refine iteD (fun e => kE (fun hG => ?_) _ s1) (fun l3 => ?_)
    · obtain ⟨q1, q2, q3, q4⟩ := hG.2.2
      omega
    refine ⟨_, rfl, p, _, _, _, rfl, rfl, SqL.of lp1, atI_nat (j := 0) (hget 0 (by omega)), _, rfl, hrl 0, _, _, rfl, rfl, _, rfl, ?_⟩
    rw [strOf_length]
    refine iteD (fun e => kE (fun hG => ?_) _ s1) (fun l4 => ?_)
    · obtain ⟨q1, q2, q3, q4⟩ := hG.2.2
      omega
    have sd : Sides ((rowAt ls 0).length : Int) ((ls.length - 1 : Nat) : Int) := ⟨by omega, by omega, by omega, by omega⟩
    refine ⟨(by show 0 ≤ sizeLine; decide), fun q hq => ?_⟩
    have npq : p ≠ q := ne_of_none lp1 hq
    generalize hH : upd H1 q _ = H2
    have s2 : Same H1 H2 := by rw [← hH]; exact sameNew hq
    have lq2 : H2 q = some (.lst []) := by rw [← hH]; exact upd_same
    clear hH
    have fq : H q = none := s1.free hq
    refine ⟨_, rfl, p, _, rfl, .inl (SqL.of (s2 _ _ lp1)), _, _, rfl, rfl, ((ls.length - 1 : Nat) : Int), congrArg (fun z => [V.int z]) hN, by omega, by omega, ?_⟩
    rw [Int.toNat_natCast]
    refine for_range (lo := 0) (n := ls.length - 1) (fun i σ H3 => (∀ y, y < i → GoodRow ls y) ∧ Same H H3 ∧ H3 p = some (.lst (ls.map V.str)) ∧ LsA CellV H3 q (gapsOf ls i) ∧ ∃ v3 v4 : Option V, σ = [some (.str t), some (.ref p), some (.ref q), v3, v4]) ?_ ?_ ?_
    · exact ⟨fun y hy => absurd hy (Nat.not_lt_zero _), s1.trans s2, s2 _ _ lp1, ⟨[], lq2, .nil⟩, none, none, rfl⟩
    · rintro i σ H3 hi ⟨gr, s3, lp, ⟨gv, lq, pg⟩, v3, v4, rfl⟩
      rw [Int.zero_add]
      refine ⟨_, rfl, _, rfl, p, _, _, _, rfl, rfl, SqL.of lp, atI_nat (hget i (by omega)), _, rfl, hrl i, ?_⟩
      refine ⟨_, rfl, p, _, _, _, rfl, rfl, SqL.of lp, atI_nat (j := 0) (hget 0 (by omega)), _, rfl, hrl 0, ?_⟩
      refine ⟨rfl, _, rfl, ?_⟩
      rw [strOf_length, strOf_length]
      refine iteB (fun e => ?_) (fun e => ?_)
      · refine kE (fun hG => ?_) _ s3
        have h1 := (hG.1 i hi).1
        rw [h1] at e
        simp at e
      have el : (rowAt ls i).length = (rowAt ls 0).length := by
        have h1 : decide (V.int ((rowAt ls i).length : Int) = V.int ((rowAt ls 0).length : Int)) = true := by simpa using e
        have h2 := of_decide_eq_true h1
        injection h2 with h2
        omega
      have ri := (hr0 i).1
      refine ⟨_, rfl, _, rfl, p, _, _, _, rfl, rfl, SqL.of lp, atI_nat (hget i (by omega)), _, rfl, hrl i, _, rfl, ?_, ?_, ?_⟩
      · rw [strOf_length]; omega
      · rw [strOf_length]; omega
      rw [strOf_length, Int.toNat_natCast]
      refine for_range (lo := 0) (n := (rowAt ls i).length) (fun j σ H4 => (∀ x, x < j → (rowAt ls i)[x]? = some 35 ∨ (rowAt ls i)[x]? = some 46) ∧ Same H H4 ∧ H4 p = some (.lst (ls.map V.str)) ∧ LsA CellV H4 q (gapsOf ls i ++ gapRow (rowAt ls i) (i : Int) j) ∧ ∃ v4 : Option V, σ = [some (.str t), some (.ref p), some (.ref q), some (.int (i : Int)), v4]) ?_ ?_ ?_
      · exact ⟨fun y hy => absurd hy (Nat.not_lt_zero _), s3, lp, by rw [show gapRow (rowAt ls i) (i : Int) 0 = [] from rfl, List.append_nil]; exact ⟨gv, lq, pg⟩, v4, rfl⟩
      · rintro j σ H4 hj ⟨gx, s4, lp4, ⟨gv4, lq4, pg4⟩, v4, rfl⟩
        rw [Int.zero_add]
        have hc : (rowAt ls i)[j]? = some ((rowAt ls i)[j]) := List.getElem?_eq_getElem hj
        have hsucc := gapRow_succ (rowAt ls i) (i : Int) j
        rw [hc] at hsucc
        generalize (rowAt ls i)[j] = c at hc hsucc
        refine ⟨_, rfl, _, rfl, p, _, _, _, rfl, rfl, SqL.of lp4, atI_nat (hget i (by omega)), _, rfl, _, _, c, rfl, rfl, hrl i, (by rw [strOf_list]; exact atI_nat hc), rfl, _, rfl, iteB (fun e => ?_) (fun e => ?_)⟩
        · have ec : c = 35 := (sign_eq c 35).mp (of_decide_eq_true e)
          subst ec
          rw [if_pos rfl] at hsucc
          refine ⟨_, rfl, .inl ⟨rfl, _, SqL.of lq4⟩, _, rfl, _, rfl, (by show 2 ≤ sizeLine; decide), fun tc htc => ?_⟩
          have s5 : Same H4 (upd H4 tc (.tup [.int (j : Int), .int (i : Int)])) := sameNew htc
          have hgl : gv4.length ≤ 4100000 := by
            have e1 := Paired.length pg4
            have e2 := gapsOf_length ls 2000 (fun y => by have := (hr0 y).1; omega) i
            have e3 := gapRow_length (rowAt ls i) (i : Int) j
            rw [List.length_append] at e1
            omega
          refine ⟨q, gv4, _, rfl, rfl, s5 _ _ lq4, Nat.lt_of_le_of_lt hgl (by decide), ?_⟩
          refine ⟨fun x hx => ?_, sameMut (s4.trans s5) fq, by rw [upd_ne npq]; exact s5 _ _ lp4, ?_, _, rfl⟩
          · by_cases h1 : x = j
            · subst h1; exact .inl hc
            · exact gx x (by omega)
          · rw [hsucc, ← List.append_assoc]
            exact push_ls rep_cell (s5 _ _ lq4) (pair_mono rep_cell (TP.of s5) pg4) ⟨tc, rfl, upd_same⟩
        · refine ⟨_, rfl, _, rfl, p, _, _, _, rfl, rfl, SqL.of lp4, atI_nat (hget i (by omega)), _, rfl, _, _, c, rfl, rfl, hrl i, (by rw [strOf_list]; exact atI_nat hc), rfl, _, rfl, iteB (fun e2 => ?_) (fun e2 => ?_)⟩
          · refine kE (fun hG => ?_) _ s4
            have h1 := (hG.1 i hi).2 c (List.mem_of_getElem? hc)
            rcases h1 with rfl | rfl
            · rw [decide_eq_true ((sign_eq 35 35).mpr rfl)] at e; cases e
            · rw [decide_eq_true ((sign_eq 46 46).mpr rfl)] at e2; cases e2
          · have ec : c = 46 := (sign_eq c 46).mp (of_decide_eq_true (by simpa using e2))
            subst ec
            rw [if_neg (by decide), List.append_nil] at hsucc
            refine ⟨fun x hx => ?_, s4, lp4, ?_, _, rfl⟩
            · by_cases h1 : x = j
              · subst h1; exact .inr hc
              · exact gx x (by omega)
            · rw [hsucc]; exact ⟨gv4, lq4, pg4⟩
      · rintro σ H4 ⟨gx, s4, lp4, lq4, v4, rfl⟩
        refine ⟨fun y hy => ?_, s4, lp4, by rw [gapsOf_succ]; exact lq4, _, _, rfl⟩
        by_cases h1 : y = i
        · subst h1
          refine ⟨el, fun x hx => ?_⟩
          obtain ⟨n, hn⟩ := List.getElem?_of_mem hx
          rcases gx n (List.getElem?_eq_some_iff.mp hn).1 with h2 | h2 <;> rw [hn] at h2 <;> injection h2 with h2
          · exact .inl h2
          · exact .inr h2
        · exact gr y (by omega)
    · rintro σ H3 ⟨gr, s3, lp, lq, v3, v4, rfl⟩
      refine ⟨_, rfl, p, _, _, _, rfl, rfl, SqL.of lp, atI_nat (j := 0) (hget 0 (by omega)), _, rfl, hrl 0, ?_⟩
      refine ⟨_, rfl, p, _, rfl, .inl (SqL.of lp), _, _, rfl, rfl, _, rfl, (by show 3 ≤ sizeLine; decide), fun tq htq => ?_⟩
      rw [strOf_length]
      refine k ⟨gr, ee, sd⟩ _ _ _ (s3.trans (sameNew htq)) ?_ (lq.keep rep_cell (sameNew htq))
      rw [upd_same]
      exact congrArg (fun z => some (HO.tup [V.int ((rowAt ls 0).length : Int), V.int z, V.ref q])) hN

end
end CF

set_option Elab.async false
set_option linter.all false
set_option maxRecDepth 100000
set_option maxHeartbeats 8000000
set_option hygiene false
namespace CF
open PySem PySem.Spec PyProof.Rows L2
section
variable {P : Program} {Wd : World} {K : PySem.W.Frag} {mg : Str → Option Value} {base : Heap} {C cF c0 c1 c2 c3 c4 c5 : Addr}
abbrev s_law : Stmt := top 27
abbrev n_law : List Str := ["script", "width", "height", "gaps", "text", "due", "found", "marks", "e", "k"]
abbrev p_law : List Str := ["script"]
theorem sc_law : FnScope n_law p_law (defScope s_law) := ⟨rfl, rfl, rfl, by decide +kernel, rfl, by decide +kernel, by decide +kernel⟩

theorem ok_law (B : Bl mg) (BT : BTx K mg C) (E_FillError : Ec K mg "FillError" cF) (M5 : Marks K cF c0 c1 c2 c3 c4 c5 c5 5)
    (DM : ∀ (D : Addr) (n : Nat), Marks K cF c0 c1 c2 c3 c4 c5 D n → De P Wd K mg base "_law_marks_of" 1 p_L_marks_of (ZE D) (spMarksOf n))
    (D_L_drawn : Df P Wd K mg base "_law_drawn" 3 p_L_drawn (spDrawn K)) (D_L_cell_at : Df P Wd K mg base "_law_cell_at" 1 p_L_cell_at (spCellAt K)) (D_L_same : Df P Wd K mg base "_law_same" 4 p_L_same (spSame C))
    (D_L_text : Df P Wd K mg base "_law_text" 1 p_L_text spLawText) (D_L_spoiled : Df P Wd K mg base "_law_spoiled" 2 p_L_spoiled spSpoiled) (D_L_due : Df P Wd K mg base "_law_due" 1 p_L_due spDue) (DX_read : Dx P Wd K mg base "read" 3 p_read (spReadX C c5))
    (f : Addr) (fd : FuncData) (F : Fun K "law" "law" s_law f fd) : FnOk P Wd K mg base CX0 5 f fd ["script"] (spLaw K) := by
  refine F.ok sc_law (fun vs H Q E h => ?_) (fun cdv A outer s H vs Q E hr h => ?_)
  · obtain ⟨a, ns, rfl, _⟩ := h
    rfl
  · obtain ⟨a, ns, rfl, hS, hlen, k⟩ := h
    refine ⟨_,
      (pss_cons (ps_asg (pe_cl (by exact D_L_drawn) (by exact hr.mono (by decide)) (pa_cons (L2.pv 0) (pa_cons pe_int pa_nil))) (pg_tupK K 3 (by rfl) (by rfl) (pgs_cons (pg_name (i := 1) sc_law.nd rfl (by first | exact Or.inl rfl | exact Or.inr rfl)) (pgs_cons (pg_name (i := 2) sc_law.nd rfl (by first | exact Or.inl rfl | exact Or.inr rfl)) (pgs_cons (pg_name (i := 3) sc_law.nd rfl (by first | exact Or.inl rfl | exact Or.inr rfl)) pgs_nil))) (by rfl) (by rfl)))
      (pss_cons (ps_set (i := 4) sc_law.nd rfl (by first | exact Or.inl rfl | exact Or.inr rfl) (pe_cl (by exact D_L_text) (by exact hr.mono (by decide)) (pa_cons (L2.pv 1) (pa_cons (L2.pv 2) (pa_cons (L2.pv 3) pa_nil)))))
      (pss_cons (ps_cut (ps_if (pt_cmpR op_gt (pe_op op_mod (pe_cl (by exact D_L_cell_at) (by exact hr.mono (by decide)) (pa_cons (L2.pv 0) (pa_cons pe_int pa_nil))) pe_int) pe_int (nomark _))
        (pss_one (ps_set (i := 4) sc_law.nd rfl (by first | exact Or.inl rfl | exact Or.inr rfl) (pe_cl (by exact D_L_spoiled) (by exact hr.mono (by decide)) (pa_cons (L2.pv 4) (pa_cons (pe_op op_mod (pe_op op_fdiv (pe_cl (by exact D_L_cell_at) (by exact hr.mono (by decide)) (pa_cons (L2.pv 0) (pa_cons pe_int pa_nil))) pe_int) (pe_op op_pow pe_int pe_int)) pa_nil)))))
        pss_nil))
      (pss_cons (ps_set (i := 5) sc_law.nd rfl (by first | exact Or.inl rfl | exact Or.inr rfl) (pe_cl (by exact D_L_due) (by exact hr.mono (by decide)) (pa_cons (L2.pv 4) pa_nil)))
      (pss_cons (ps_set (i := 6) sc_law.nd rfl (by first | exact Or.inl rfl | exact Or.inr rfl) pe_non)
      (pss_cons (ps_set (i := 7) sc_law.nd rfl (by first | exact Or.inl rfl | exact Or.inr rfl) (pe_lst pa_nil))
      (pss_cons (L2.ps_try_as (i := 8) rfl rfl sc_law.nd rfl rfl (E_FillError.names rfl) L2.takes0 (fun W pn xe tk po =>
        (pss_one (ps_set (i := 6) sc_law.nd rfl (by first | exact Or.inl rfl | exact Or.inr rfl) (pe_clS (E := L2.WE W) (by exact DX_read) (by exact hr.mono (by decide)) (fun σ => L2.passAt tk σ) (pa_cons (L2.pv 4) pa_nil))))) (fun a oe cls d pn hz hf =>
        (pss_one (ps_set (i := 7) sc_law.nd rfl (by first | exact Or.inl rfl | exact Or.inr rfl) (pe_clM P Wd K mg base 1 p_L_marks_of ⟨rfl, rfl, rfl, rfl, rfl⟩ (by exact roomMark (hr.mono (by decide)) _) (by exact List.mem_cons_self) hz hf (pa_cons (L2.pv 8) pa_nil))))))
      (pss_cons (ps_if (pt_cmpR op_isN (L2.pv 5) pe_non (nomark _))
        (pss_one (ps_ret (pe_cmpR (op_eqK K (by rfl) (by exact hr.units)) (L2.pv 7) (pe_lc (own := [("k", 9)]) (by rfl) sc_law.nd  (pi_range1 (by rfl) B.range (pa_cons pe_int pa_nil)) (blkOk_by (own := [("k", 9)]) (N := n_law) (sc := defScope s_law) (by decide +kernel)) (fun _ _ _ _ _ => (pg_name (i := 9) sc_law.nd rfl (by first | exact Or.inl rfl | exact Or.inr rfl))) (fun _ _ _ _ _ => pts_nil) (fun _ _ _ _ _ => by exact (pe_cmpR op_eq (L2.pv 9) pe_int (nomark _)))) (nomark _))))
        pss_nil)
      (pss_one (ps_ret (pe_and (pe_cmpR (op_eqK K (by rfl) (by exact hr.units)) (L2.pv 7) (pe_lst pa_nil) (nomark _)) (pe_one (pe_cl (by exact D_L_same) (by exact hr.mono (by decide)) (pa_cons (L2.pv 6) (pa_cons (pe_ixTK K (by rfl) (L2.pv 5) pe_int (fun _ _ => rfl)) (pa_cons (pe_ixTK K (by rfl) (L2.pv 5) pe_int (fun _ _ => rfl)) (pa_cons (pe_ixTK K (by rfl) (L2.pv 5) pe_int (fun _ _ => rfl)) pa_nil))))))))))))))))), ?_⟩
    refine ⟨_, rfl, a, ns, rfl, hS, fun H1 t q w h g s1 ht hq hg sd nd ib => ?_⟩
    refine ⟨t, _, rfl, SqT.of ht, rfl, _, _, rfl, _, _, rfl, _, _, rfl, rfl, ?_⟩
    have hlen256 := inb_length sd nd ib
    refine ⟨_, rfl, _, rfl, _, rfl, q, w, h, g, rfl, hg, by omega, sd, fun H2 s2 => ?_⟩
    have hT := room_text sd (Nat.le_refl _) g
    refine ⟨fun σ' H' => Same H2 H' ∧ ∃ T : Str, T.length ≤ 2000 ∧ σ' = [some (.ref a), some (.int w), some (.int h), some (.ref q), some (.str T), none, none, none, none, none], ?_, ?_⟩
    · refine ⟨_, rfl, a, ns, _, rfl, (s1.trans s2).seq hS, by decide, fun c2 => ?_⟩
      refine ⟨_, _, rfl, rfl, (by show (0 : Int) < 4; decide), _, _, rfl, rfl, _, rfl, iteD (fun _ => ?_) (fun _ => ?_)⟩
      · refine ⟨_, rfl, _, rfl, a, ns, _, rfl, (s1.trans s2).seq hS, by decide, fun c3 => ?_⟩
        refine ⟨_, _, rfl, rfl, ⟨by decide, by decide⟩, _, _, rfl, rfl, ⟨by decide, by decide, by decide⟩, _, _, rfl, rfl, (by show (0 : Int) < 10 ^ Int.toNat 12; decide), w, h, _, g, rfl, sd, fun H3 r s3 hr3 => ?_⟩
        exact ⟨s3, r, hr3, rfl⟩
      · exact ⟨Same.refl _, _, (by rw [strOf_length]; omega), rfl⟩
    · rintro σ' H3 ⟨s3, T, hT2, rfl⟩
      have hg3 := hg.keep rep_cell (s2.trans s3)
      refine ⟨_, rfl, T, rfl, hT2, fun good H4 tq dq s4 htq hdq => ?_, fun bad H4 s4 => ?_⟩
      · refine ⟨(by show 0 ≤ sizeLine; decide), fun ml hml => ?_⟩
        generalize hH : upd H4 ml _ = H5
        have s5 : Same H4 H5 := by rw [← hH]; exact sameNew hml
        have lm : LsA BoolV H5 ml [] := ⟨[], by rw [← hH]; exact upd_same, .nil⟩
        clear hH
        refine ⟨_, rfl, T, rfl, hT2, fun _ H6 b s6 bd => ?_, fun bad => absurd good bad⟩
        refine ⟨_, rfl, rfl, _, rfl, ?_⟩
        refine iteF ?_
        have s7 := s5.trans s6
        have htq6 := s7 _ _ htq
        have hdq6 := hdq.keep rep_cell s7
        refine ⟨_, rfl, (by show 0 ≤ sizeLine; decide), fun el hel => ?_⟩
        have s8 : Same H6 (upd H6 el (.lst [])) := sameNew hel
        refine eq_ls rep_bool ge_bool (by decide) ((lm.keep rep_bool s6).keep rep_bool s8) ⟨[], upd_same, .nil⟩ ?_
        rw [decide_eq_true (rfl : ([] : List Bool) = [])]
        refine ⟨_, rfl, iteT ?_⟩
        have htq7 := s8 _ _ htq6
        refine ⟨_, rfl, _, rfl, tq, _, _, _, rfl, rfl, SqT.of htq7, atI_nat (j := 0) rfl, ?_⟩
        refine ⟨_, rfl, tq, _, _, _, rfl, rfl, SqT.of htq7, atI_nat (j := 1) rfl, ?_⟩
        refine ⟨_, rfl, tq, _, _, _, rfl, rfl, SqT.of htq7, atI_nat (j := 2) rfl, ?_⟩
        exact ⟨b, dq, _, _, _, _, rfl, bd.keep s8, hdq6.keep rep_cell s8, List.Perm.refl _, fun H9 _ => k H9⟩
      · refine ⟨(by show 0 ≤ sizeLine; decide), fun ml hml => ?_⟩
        refine ⟨_, rfl, T, rfl, hT2, fun good => absurd good bad, fun _ H6 s6 => ?_⟩
        refine ⟨true, E_FillError.exm M5.kf, fun _ ea hea => ?_, fun z => nomatch z⟩
        refine ⟨c5, spMarksOf 5, rfl, rfl, DM _ _ M5, _, rfl, rfl, fun H7 r nr => ?_⟩
        refine ⟨_, rfl, rfl, _, rfl, ?_⟩
        refine iteT ?_
        refine ⟨_, rfl, ?_⟩
        (refine ⟨7, rfl, by omega, by omega, fun D hD => ?_⟩
         refine lc_range (lo := 0) (n := 7) (fun j H' => Same H7 H' ∧ H' D = some (.lst ((List.range j).map fun k : Nat => V.bl (decide (V.int ((k : Nat) : Int) = V.int ((5 : Nat) : Int)))))) ⟨sameNew hD, upd_same⟩ (fun j H' hj hh => ?_) (fun H' hh => ?_)
         · obtain ⟨sm, hD'⟩ := hh
           rw [Int.zero_add]
           refine ⟨rfl, _, rfl, rfl, _, hD', ?_, sameMut sm hD, ?_⟩
           · rw [List.length_map, List.length_range]; exact Nat.lt_trans (show j < 1000000 by omega) big_line
           · rw [List.range_succ, List.map_append]; exact upd_same)
        obtain ⟨sm, hD'⟩ := hh
        refine eq_ls rep_bool ge_bool (by decide) (nr.2.2.keep rep_bool sm) ⟨_, hD', marks_pair _ 5 (by decide)⟩ ?_
        rw [decide_eq_true (rfl : marksL 5 = marksL 5)]
        exact k _
end
theorem all_mk {Wd : World} {K : PySem.W.Frag} {mg : Str → Option Value} {fa C : Addr} (L : LawIn K mg s_law fa) (B : Bl mg) (BT : BTx K mg C) {c_FillError c_BadSides c_BadGap c_NotOneGap c_HasGaps c_TooMany c_NoText : Addr}
    (E_FillError : Ec K mg "FillError" c_FillError)
    (E_BadSides : Ec K mg "BadSides" c_BadSides)
    (E_BadGap : Ec K mg "BadGap" c_BadGap)
    (E_NotOneGap : Ec K mg "NotOneGap" c_NotOneGap)
    (E_HasGaps : Ec K mg "HasGaps" c_HasGaps)
    (E_TooMany : Ec K mg "TooMany" c_TooMany)
    (E_NoText : Ec K mg "NoText" c_NoText)
    (SS_BadSides : PySem.W.subIn K (.ref c_BadSides) (.ref c_BadSides) = some true)
    (ER_BadSides : Marks K c_FillError c_BadSides c_BadGap c_NotOneGap c_HasGaps c_TooMany c_NoText c_BadSides 0)
    (ER_BadGap : Marks K c_FillError c_BadSides c_BadGap c_NotOneGap c_HasGaps c_TooMany c_NoText c_BadGap 1)
    (ER_NoText : Marks K c_FillError c_BadSides c_BadGap c_NotOneGap c_HasGaps c_TooMany c_NoText c_NoText 5)
    (I_B_init : InitIn K mg "Board" C "Board.__init__" s_B_init p_B_init)
    (I_B_width : MethIn K C "width" "Board.width" s_B_width p_B_width)
    (I_B_height : MethIn K C "height" "Board.height" s_B_height p_B_height)
    (I_B_gaps : MethIn K C "gaps" "Board.gaps" s_B_gaps p_B_gaps)
    (I_B_open_cells : MethIn K C "open_cells" "Board.open_cells" s_B_open_cells p_B_open_cells)
    (I_read : DefIn K mg "read" s_read p_read)
    (I_L_cell_at : DefIn K mg "_law_cell_at" s_L_cell_at p_L_cell_at)
    (I_L_whole : DefIn K mg "_law_whole" s_L_whole p_L_whole)
    (I_L_gaps_by : DefIn K mg "_law_gaps_by" s_L_gaps_by p_L_gaps_by)
    (I_L_open : DefIn K mg "_law_open" s_L_open p_L_open)
    (I_L_is_cell : DefIn K mg "_law_is_cell" s_L_is_cell p_L_is_cell)
    (I_L_is_cells : DefIn K mg "_law_is_cells" s_L_is_cells p_L_is_cells)
    (I_L_drawn : DefIn K mg "_law_drawn" s_L_drawn p_L_drawn)
    (I_L_same : DefIn K mg "_law_same" s_L_same p_L_same)
    (I_L_text : DefIn K mg "_law_text" s_L_text p_L_text)
    (I_L_marks_of : DefIn K mg "_law_marks_of" s_L_marks_of p_L_marks_of)
    (I_L_sign_by : DefIn K mg "_law_sign_by" s_L_sign_by p_L_sign_by)
    (I_L_spoiled : DefIn K mg "_law_spoiled" s_L_spoiled p_L_spoiled)
    (I_L_due : DefIn K mg "_law_due" s_L_due p_L_due) :
    ∃ fd : FuncData, (∀ (s : Shared) (v : Value), BindsTo s fd ⟨[v], []⟩ [("script", v)]) ∧ ∀ base : Heap, K.In base → base.Ns mainGlobals mg → FnOk PySem.Challenge.rw_cornerfill_k13_boards_read_or_refused.prog Wd K mg base CX0 5 fa fd ["script"] (spLaw K) := by
  refine law_end L (fun base f fd h1 h2 F => ?_) (fun _ _ _ _ _ _ v => rfl)
  have DX_Board := (I_B_init.bmN (P := PySem.Challenge.rw_cornerfill_k13_boards_read_or_refused.prog) (w := Wd) (mg := mg) (base := base) (ok_initX BT E_BadSides E_BadGap))
  have DM := fun (D : Addr) (n : Nat) (M : Marks K c_FillError c_BadSides c_BadGap c_NotOneGap c_HasGaps c_TooMany c_NoText D n) => (I_L_marks_of.de (P := PySem.Challenge.rw_cornerfill_k13_boards_read_or_refused.prog) (w := Wd) (mg := mg) (base := base) (ok_marks_of B E_BadSides E_BadGap E_NotOneGap E_HasGaps E_TooMany E_NoText M))
  have DX_read := (I_read.dx (P := PySem.Challenge.rw_cornerfill_k13_boards_read_or_refused.prog) (w := Wd) (mg := mg) (base := base) (ok_read B E_BadSides E_NoText SS_BadSides DX_Board))
  have D_Board := (I_B_init.bm (P := PySem.Challenge.rw_cornerfill_k13_boards_read_or_refused.prog) (w := Wd) (mg := mg) (base := base) (ok_init BT))
  have M_width := (I_B_width.mf (P := PySem.Challenge.rw_cornerfill_k13_boards_read_or_refused.prog) (w := Wd) (mg := mg) (base := base) (ok_width BT))
  have M_height := (I_B_height.mf (P := PySem.Challenge.rw_cornerfill_k13_boards_read_or_refused.prog) (w := Wd) (mg := mg) (base := base) (ok_height BT))
  have M_gaps := (I_B_gaps.mf (P := PySem.Challenge.rw_cornerfill_k13_boards_read_or_refused.prog) (w := Wd) (mg := mg) (base := base) (ok_gaps BT B))
  have M_open_cells := (I_B_open_cells.mf (P := PySem.Challenge.rw_cornerfill_k13_boards_read_or_refused.prog) (w := Wd) (mg := mg) (base := base) (ok_open BT B))
  have D_L_cell_at := (I_L_cell_at.df (P := PySem.Challenge.rw_cornerfill_k13_boards_read_or_refused.prog) (w := Wd) (mg := mg) (base := base) (ok_cell_at B))
  have D_L_whole := (I_L_whole.df (P := PySem.Challenge.rw_cornerfill_k13_boards_read_or_refused.prog) (w := Wd) (mg := mg) (base := base) (ok_whole B))
  have D_L_gaps_by := (I_L_gaps_by.df (P := PySem.Challenge.rw_cornerfill_k13_boards_read_or_refused.prog) (w := Wd) (mg := mg) (base := base) (ok_gaps_by B D_L_cell_at))
  have D_L_open := (I_L_open.df (P := PySem.Challenge.rw_cornerfill_k13_boards_read_or_refused.prog) (w := Wd) (mg := mg) (base := base) (ok_L_open B))
  have D_L_is_cell := (I_L_is_cell.df (P := PySem.Challenge.rw_cornerfill_k13_boards_read_or_refused.prog) (w := Wd) (mg := mg) (base := base) (ok_is_cell B D_L_whole))
  have D_L_is_cells := (I_L_is_cells.df (P := PySem.Challenge.rw_cornerfill_k13_boards_read_or_refused.prog) (w := Wd) (mg := mg) (base := base) (ok_is_cells B D_L_is_cell))
  have D_L_drawn := (I_L_drawn.df (P := PySem.Challenge.rw_cornerfill_k13_boards_read_or_refused.prog) (w := Wd) (mg := mg) (base := base) (ok_drawn B D_L_cell_at D_L_gaps_by))
  have D_L_same := (I_L_same.df (P := PySem.Challenge.rw_cornerfill_k13_boards_read_or_refused.prog) (w := Wd) (mg := mg) (base := base) (ok_same B BT D_L_whole D_L_open D_L_is_cells M_width M_height M_gaps M_open_cells))
  have D_L_text := (I_L_text.df (P := PySem.Challenge.rw_cornerfill_k13_boards_read_or_refused.prog) (w := Wd) (mg := mg) (base := base) (ok_L_text B))
  have D_L_sign_by := (I_L_sign_by.df (P := PySem.Challenge.rw_cornerfill_k13_boards_read_or_refused.prog) (w := Wd) (mg := mg) (base := base) (ok_sign_by))
  have D_L_spoiled := (I_L_spoiled.df (P := PySem.Challenge.rw_cornerfill_k13_boards_read_or_refused.prog) (w := Wd) (mg := mg) (base := base) (ok_spoiled B D_L_sign_by))
  have D_L_due := (I_L_due.df (P := PySem.Challenge.rw_cornerfill_k13_boards_read_or_refused.prog) (w := Wd) (mg := mg) (base := base) (ok_due B))
  exact ok_law B BT E_FillError ER_NoText DM D_L_drawn D_L_cell_at D_L_same D_L_text D_L_spoiled D_L_due DX_read f fd F
end CF
open PySem PySem.W PyProof.Rows CF L2
set_option maxRecDepth 100000 in
set_option maxHeartbeats 0 in
theorem PySem.Challenge.cw_cornerfill_k13_boards_read_or_refused_holds : PySem.Challenge.rw_cornerfill_k13_boards_read_or_refused.Holds := by
  w_on; o_law; k_head; (case hw => w_witness2)
  k_fill
  refine CF.walk (l := PySem.Challenge.rw_cornerfill_k13_boards_read_or_refused) 5 ⟨rfl, by decide, by decide⟩ rfl rfl (fun w h Y => PySem.W.kIn_of Y) ?F
  case F =>
    intro w mg fa h KX G hmg
    refine' all_mk ?L ?B ?BT ?E_FillError ?E_BadSides ?E_BadGap ?E_NotOneGap ?E_HasGaps ?E_TooMany ?E_NoText ?SS_BadSides ?ER_BadSides ?ER_BadGap ?ER_NoText ?I_B_init ?I_B_width ?I_B_height ?I_B_gaps ?I_B_open_cells ?I_read ?I_L_cell_at ?I_L_whole ?I_L_gaps_by ?I_L_open ?I_L_is_cell ?I_L_is_cells ?I_L_drawn ?I_L_same ?I_L_text ?I_L_marks_of ?I_L_sign_by ?I_L_spoiled ?I_L_due
    case E_FillError =>
      refine' ec_mk KX G ?a ?e ?k ?b ?t ?d
      (case a => k_is)
      (case e => k_exc)
      (case k => k_is)
      (case b => k_is)
      (case t => k_is)
      (case d => k_is)
    case E_BadSides =>
      refine' ec_mk KX G ?a ?e ?k ?b ?t ?d
      (case a => k_is)
      (case e => k_exc)
      (case k => k_is)
      (case b => k_is)
      (case t => k_is)
      (case d => k_is)
    case E_BadGap =>
      refine' ec_mk KX G ?a ?e ?k ?b ?t ?d
      (case a => k_is)
      (case e => k_exc)
      (case k => k_is)
      (case b => k_is)
      (case t => k_is)
      (case d => k_is)
    case E_NotOneGap =>
      refine' ec_mk KX G ?a ?e ?k ?b ?t ?d
      (case a => k_is)
      (case e => k_exc)
      (case k => k_is)
      (case b => k_is)
      (case t => k_is)
      (case d => k_is)
    case E_HasGaps =>
      refine' ec_mk KX G ?a ?e ?k ?b ?t ?d
      (case a => k_is)
      (case e => k_exc)
      (case k => k_is)
      (case b => k_is)
      (case t => k_is)
      (case d => k_is)
    case E_TooMany =>
      refine' ec_mk KX G ?a ?e ?k ?b ?t ?d
      (case a => k_is)
      (case e => k_exc)
      (case k => k_is)
      (case b => k_is)
      (case t => k_is)
      (case d => k_is)
    case E_NoText =>
      refine' ec_mk KX G ?a ?e ?k ?b ?t ?d
      (case a => k_is)
      (case e => k_exc)
      (case k => k_is)
      (case b => k_is)
      (case t => k_is)
      (case d => k_is)
    case SS_BadSides => k_is
    case ER_BadSides =>
      refine' marks_mk (excC_mk ?a ?b ?c ?d ?e ?f ?g ?h) ?kf (by decide) ?k0 ?k1 ?k2 ?k3 ?k4 ?k5 ?kv
      (case a => k_is)
      (case b => k_is)
      (case c => k_is)
      (case d => k_is)
      (case e => k_is)
      (case f => k_is)
      (case g => k_is)
      (case h => k_is)
      (case kf => k_is)
      (case k0 => kit_is)
      (case k1 => kit_is)
      (case k2 => kit_is)
      (case k3 => kit_is)
      (case k4 => kit_is)
      (case k5 => kit_is)
      (case kv => kit_is)
    case ER_BadGap =>
      refine' marks_mk (excC_mk ?a ?b ?c ?d ?e ?f ?g ?h) ?kf (by decide) ?k0 ?k1 ?k2 ?k3 ?k4 ?k5 ?kv
      (case a => k_is)
      (case b => k_is)
      (case c => k_is)
      (case d => k_is)
      (case e => k_is)
      (case f => k_is)
      (case g => k_is)
      (case h => k_is)
      (case kf => k_is)
      (case k0 => kit_is)
      (case k1 => kit_is)
      (case k2 => kit_is)
      (case k3 => kit_is)
      (case k4 => kit_is)
      (case k5 => kit_is)
      (case kv => kit_is)
    case ER_NoText =>
      refine' marks_mk (excC_mk ?a ?b ?c ?d ?e ?f ?g ?h) ?kf (by decide) ?k0 ?k1 ?k2 ?k3 ?k4 ?k5 ?kv
      (case a => k_is)
      (case b => k_is)
      (case c => k_is)
      (case d => k_is)
      (case e => k_is)
      (case f => k_is)
      (case g => k_is)
      (case h => k_is)
      (case kf => k_is)
      (case k0 => kit_is)
      (case k1 => kit_is)
      (case k2 => kit_is)
      (case k3 => kit_is)
      (case k4 => kit_is)
      (case k5 => kit_is)
      (case kv => kit_is)
    case I_B_init =>
      refine' initIn_mk KX G ?aC ?mk ?kc ?a ?i ?l ?c ?k (fun _ _ _ _ _ _ us hl => match us, hl with | [_, _, _, _], _ => rfl)
      (case aC => k_is)
      (case mk => k_is)
      (case kc => k_is)
      (case a => k_is)
      (case i => k_is)
      (case l => k_is)
      (case c => k_is)
      (case k => k_is)
    case I_B_width =>
      refine' methIn_mk ?a ?i ?l ?c ?k (fun _ _ _ _ _ _ us hl => match us, hl with | [_], _ => rfl)
      (case a => k_is)
      (case i => k_is)
      (case l => k_is)
      (case c => k_is)
      (case k => k_is)
    case I_B_height =>
      refine' methIn_mk ?a ?i ?l ?c ?k (fun _ _ _ _ _ _ us hl => match us, hl with | [_], _ => rfl)
      (case a => k_is)
      (case i => k_is)
      (case l => k_is)
      (case c => k_is)
      (case k => k_is)
    case I_B_gaps =>
      refine' methIn_mk ?a ?i ?l ?c ?k (fun _ _ _ _ _ _ us hl => match us, hl with | [_], _ => rfl)
      (case a => k_is)
      (case i => k_is)
      (case l => k_is)
      (case c => k_is)
      (case k => k_is)
    case I_B_open_cells =>
      refine' methIn_mk ?a ?i ?l ?c ?k (fun _ _ _ _ _ _ us hl => match us, hl with | [_], _ => rfl)
      (case a => k_is)
      (case i => k_is)
      (case l => k_is)
      (case c => k_is)
      (case k => k_is)
    case I_read =>
      refine' defIn_mk KX G ?a ?l ?c ?k (fun _ _ _ _ _ _ us hl => match us, hl with | [_], _ => rfl)
      (case a => k_is)
      (case l => k_is)
      (case c => k_is)
      (case k => k_is)
    case I_L_cell_at =>
      refine' defIn_mk KX G ?a ?l ?c ?k (fun _ _ _ _ _ _ us hl => match us, hl with | [_, _], _ => rfl)
      (case a => k_is)
      (case l => k_is)
      (case c => k_is)
      (case k => k_is)
    case I_L_whole =>
      refine' defIn_mk KX G ?a ?l ?c ?k (fun _ _ _ _ _ _ us hl => match us, hl with | [_], _ => rfl)
      (case a => k_is)
      (case l => k_is)
      (case c => k_is)
      (case k => k_is)
    case I_L_gaps_by =>
      refine' defIn_mk KX G ?a ?l ?c ?k (fun _ _ _ _ _ _ us hl => match us, hl with | [_, _, _, _, _], _ => rfl)
      (case a => k_is)
      (case l => k_is)
      (case c => k_is)
      (case k => k_is)
    case I_L_open =>
      refine' defIn_mk KX G ?a ?l ?c ?k (fun _ _ _ _ _ _ us hl => match us, hl with | [_, _, _], _ => rfl)
      (case a => k_is)
      (case l => k_is)
      (case c => k_is)
      (case k => k_is)
    case I_L_is_cell =>
      refine' defIn_mk KX G ?a ?l ?c ?k (fun _ _ _ _ _ _ us hl => match us, hl with | [_], _ => rfl)
      (case a => k_is)
      (case l => k_is)
      (case c => k_is)
      (case k => k_is)
    case I_L_is_cells =>
      refine' defIn_mk KX G ?a ?l ?c ?k (fun _ _ _ _ _ _ us hl => match us, hl with | [_, _], _ => rfl)
      (case a => k_is)
      (case l => k_is)
      (case c => k_is)
      (case k => k_is)
    case I_L_drawn =>
      refine' defIn_mk KX G ?a ?l ?c ?k (fun _ _ _ _ _ _ us hl => match us, hl with | [_, _], _ => rfl)
      (case a => k_is)
      (case l => k_is)
      (case c => k_is)
      (case k => k_is)
    case I_L_same =>
      refine' defIn_mk KX G ?a ?l ?c ?k (fun _ _ _ _ _ _ us hl => match us, hl with | [_, _, _, _], _ => rfl)
      (case a => k_is)
      (case l => k_is)
      (case c => k_is)
      (case k => k_is)
    case I_L_text =>
      refine' defIn_mk KX G ?a ?l ?c ?k (fun _ _ _ _ _ _ us hl => match us, hl with | [_, _, _], _ => rfl)
      (case a => k_is)
      (case l => k_is)
      (case c => k_is)
      (case k => k_is)
    case I_L_marks_of =>
      refine' defIn_mk KX G ?a ?l ?c ?k (fun _ _ _ _ _ _ us hl => match us, hl with | [_], _ => rfl)
      (case a => k_is)
      (case l => k_is)
      (case c => k_is)
      (case k => k_is)
    case I_L_sign_by =>
      refine' defIn_mk KX G ?a ?l ?c ?k (fun _ _ _ _ _ _ us hl => match us, hl with | [_], _ => rfl)
      (case a => k_is)
      (case l => k_is)
      (case c => k_is)
      (case k => k_is)
    case I_L_spoiled =>
      refine' defIn_mk KX G ?a ?l ?c ?k (fun _ _ _ _ _ _ us hl => match us, hl with | [_, _], _ => rfl)
      (case a => k_is)
      (case l => k_is)
      (case c => k_is)
      (case k => k_is)
    case I_L_due =>
      refine' defIn_mk KX G ?a ?l ?c ?k (fun _ _ _ _ _ _ us hl => match us, hl with | [_], _ => rfl)
      (case a => k_is)
      (case l => k_is)
      (case c => k_is)
      (case k => k_is)

    case L =>
      refine' lawIn_mk KX G hmg ?a ?l ?c ?k
      (case a => k_is)
      (case l => k_is)
      (case c => k_is)
      (case k => k_is)
    case B =>
      refine' bl_mk KX G ?z1 ?z2 ?z3 ?z4 ?z5 ?z6 ?z7 ?z8 ?z9 ?z10 ?z11 ?z12 ?z13
      all_goals k_is
    case BT =>
      refine' btx_mk KX G ?pg ?hd ?po ?sa ?nW ?nH ?nM ?aM
      (case pg => k_is)
      (case hd => k_is)
      (case po => k_is)
      (case sa => k_is)
      (case nW => k_is)
      (case nH => k_is)
      (case nM => k_is)
      (case aM => k_is)
#print axioms PySem.Challenge.cw_cornerfill_k13_boards_read_or_refused_holds

