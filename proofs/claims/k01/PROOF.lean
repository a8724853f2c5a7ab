import PyProof.Rows.All
import Wide.All
import OpenK.AllK
import Wide.FinOn
import HandS.ForMost
import HandS.Conv
import HandS.Deep
import HandS.IsInst
import KE.SortData
import KE.KDictKeyed
import PySem.Challenge.RW_cornerfill_k01_boards_told
set_option Elab.async false
set_option linter.all false
set_option maxRecDepth 100000
set_option maxHeartbeats 4000000
/-! CFBase: data over the abstract heap, rules for sorted, nested keys, callee bundles. -/
namespace CF
open PySem PySem.Spec PyProof.Rows L2

/-! ### heaps -/
def TP (H H' : Hp) : Prop := ∀ b xs, H b = some (.tup xs) → H' b = some (.tup xs)
theorem TP.refl (H : Hp) : TP H H := fun _ _ h => h
theorem TP.trans {H H1 H2 : Hp} (a : TP H H1) (b : TP H1 H2) : TP H H2 := fun c xs h => b c xs (a c xs h)
theorem TP.of {H H' : Hp} (s : Same H H') : TP H H' := fun b xs h => s b _ h
theorem TP.new {H : Hp} {p : Addr} {o : HO} (h : H p = none) : TP H (upd H p o) := fun b xs e => by
  rw [upd_ne (ne_of_none e h)]; exact e
theorem TP.mut {H : Hp} {p : Addr} {o o' : HO} (h : H p = some o) (hn : ∀ xs, o ≠ .tup xs) : TP H (upd H p o') := fun b xs e => by
  have hb : b ≠ p := by
    rintro rfl
    rw [h] at e
    exact hn xs (Option.some.inj e)
  rw [upd_ne hb]; exact e
theorem sameNew {H : Hp} {p : Addr} {o : HO} (h : H p = none) : Same H (upd H p o) := fun b u e => by
  rw [upd_ne (ne_of_none e h)]; exact e
theorem sameMut {H H' : Hp} {p : Addr} {o : HO} (e : Same H H') (h : H p = none) : Same H (upd H' p o) := fun a u ha => by
  rw [upd_ne (ne_of_none ha h)]; exact e a u ha
/-- all but the object at p stays -/
def But (p : Addr) (H H' : Hp) : Prop := ∀ b o, b ≠ p → H b = some o → H' b = some o
theorem But.upd {H : Hp} {p : Addr} {o : HO} : But p H (upd H p o) := fun b u hb e => by rw [upd_ne hb]; exact e
theorem But.trans {p : Addr} {H H1 H2 : Hp} (a : But p H H1) (b : But p H1 H2) : But p H H2 := fun c o h e => b c o h (a c o h e)
theorem But.of {p : Addr} {H H' : Hp} (s : Same H H') : But p H H' := fun b o _ e => s b o e
theorem But.same {p : Addr} {H0 H H' : Hp} (s : Same H0 H) (k : But p H H') (n : H0 p = none) : Same H0 H' := fun b o e => k b o (ne_of_none e n) (s b o e)

/-! ### what reads as data -/
abbrev Cell := Int × Int
def CellV (H : Hp) (v : V) (c : Cell) : Prop := ∃ a, v = .ref a ∧ H a = some (.tup [.int c.1, .int c.2])
def IntV (_H : Hp) (v : V) (i : Int) : Prop := v = .int i
def BoolV (_H : Hp) (v : V) (i : Bool) : Prop := v = .bl i
def StrV (_H : Hp) (v : V) (i : Str) : Prop := v = .str i
def TupV {α : Type} (R : Hp → V → α → Prop) (H : Hp) (v : V) (l : List α) : Prop := ∃ a vs, v = .ref a ∧ H a = some (.tup vs) ∧ Paired (R H) vs l
/-- a list stands at a -/
def LsA {α : Type} (R : Hp → V → α → Prop) (H : Hp) (a : Addr) (l : List α) : Prop := ∃ vs, H a = some (.lst vs) ∧ Paired (R H) vs l
/-- data that lean on tuples alone -/
structure Rep {α : Type} (R : Hp → V → α → Prop) (enc : α → PyData) : Prop where
  mono : ∀ {H H' : Hp} {v : V} {x : α}, TP H H' → R H v x → R H' v x
  dp : ∀ {K : PySem.W.Frag} {H : Hp} {v : V} {x : α}, R H v x → Dp K H v (enc x)
theorem pair_mono {α : Type} {R : Hp → V → α → Prop} {enc : α → PyData} (r : Rep R enc) {H H' : Hp} (t : TP H H') {vs : List V} {l : List α} (p : Paired (R H) vs l) : Paired (R H') vs l := Paired.mono (fun _ _ => r.mono t) p
theorem pair_dp {α : Type} {R : Hp → V → α → Prop} {enc : α → PyData} (r : Rep R enc) {K : PySem.W.Frag} {H : Hp} : ∀ {vs : List V} {l : List α}, Paired (R H) vs l → DpAll K H vs (l.map enc)
  | _, _, .nil => .nil
  | _, _, .cons h t => .cons (r.dp h) (pair_dp r t)
theorem LsA.dp {α : Type} {R : Hp → V → α → Prop} {enc : α → PyData} (r : Rep R enc) {K : PySem.W.Frag} {H : Hp} {a : Addr} {l : List α} (h : LsA R H a l) : Dp K H (.ref a) (.list (l.map enc)) := by
  obtain ⟨vs, e, p⟩ := h
  exact .lst (SqL.of e) (pair_dp r p)
theorem LsA.keep {α : Type} {R : Hp → V → α → Prop} {enc : α → PyData} (r : Rep R enc) {H H' : Hp} {a : Addr} {l : List α} (h : LsA R H a l) (s : Same H H') : LsA R H' a l := by
  obtain ⟨vs, e, p⟩ := h
  exact ⟨vs, s _ _ e, pair_mono r (TP.of s) p⟩
theorem TP.lst {H : Hp} {p : Addr} {xs : List V} {o : HO} (h : H p = some (.lst xs)) : TP H (upd H p o) := TP.mut h (by intro ys z; cases z)
theorem push_ls {α : Type} {R : Hp → V → α → Prop} {enc : α → PyData} (r : Rep R enc) {H : Hp} {D : Addr} {acc : List V} {l : List α} {v : V} {x : α} (hD : H D = some (.lst acc)) (pa : Paired (R H) acc l) (hx : R H v x) :
    LsA R (upd H D (.lst (acc ++ [v]))) D (l ++ [x]) := ⟨acc ++ [v], upd_same, (pair_mono r (TP.lst hD) pa).snoc (r.mono (TP.lst hD) hx)⟩
theorem pair_app {α β : Type} {F : α → β → Prop} : ∀ {l₁ l₂ : List α} {m₁ m₂ : List β}, Paired F l₁ m₁ → Paired F l₂ m₂ → Paired F (l₁ ++ l₂) (m₁ ++ m₂)
  | _, _, _, _, .nil, s => s
  | _, _, _, _, .cons r t, s => .cons r (pair_app t s)
theorem pair_rev {α β : Type} {F : α → β → Prop} : ∀ {l : List α} {m : List β}, Paired F l m → Paired F l.reverse m.reverse
  | _, _, .nil => .nil
  | _, _, .cons r t => by
    rw [List.reverse_cons, List.reverse_cons]
    exact (pair_rev t).snoc r
theorem ext_ls {α : Type} {R : Hp → V → α → Prop} {enc : α → PyData} (r : Rep R enc) {H : Hp} {D : Addr} {acc bs : List V} {l m : List α} (hD : H D = some (.lst acc)) (pa : Paired (R H) acc l) (pb : Paired (R H) bs m) :
    LsA R (upd H D (.lst (acc ++ bs))) D (l ++ m) := ⟨acc ++ bs, upd_same, pair_app (pair_mono r (TP.lst hD) pa) (pair_mono r (TP.lst hD) pb)⟩
theorem LsA.upd {α : Type} {R : Hp → V → α → Prop} {enc : α → PyData} (r : Rep R enc) {H : Hp} {a p : Addr} {l : List α} {xs : List V} {o : HO} (h : LsA R H a l) (hne : a ≠ p) (hp : H p = some (.lst xs)) : LsA R (upd H p o) a l := by
  obtain ⟨vs, e, q⟩ := h
  exact ⟨vs, by rw [upd_ne hne]; exact e, pair_mono r (TP.lst hp) q⟩
theorem LsA.ne {α : Type} {R : Hp → V → α → Prop} {H : Hp} {a p : Addr} {l : List α} (h : LsA R H a l) (hp : H p = none) : a ≠ p := by
  obtain ⟨vs, e, _⟩ := h
  exact ne_of_none e hp
def cD (c : Cell) : PyData := .tuple [.int c.1, .int c.2]
theorem rep_int : Rep IntV PyData.int := ⟨fun _ h => h, fun h => by cases h; exact .int _⟩
theorem rep_bool : Rep BoolV PyData.bool := ⟨fun _ h => h, fun h => by cases h; exact .bl _⟩
theorem rep_str : Rep StrV PyData.str := ⟨fun _ h => h, fun h => by cases h; exact .str _⟩
theorem rep_cell : Rep CellV cD := ⟨fun t ⟨a, e, h⟩ => ⟨a, e, t _ _ h⟩, fun {K H v x} ⟨a, e, h⟩ => by
  subst e
  exact .tup (SqT.of h) (.cons (.int _) (.cons (.int _) .nil))⟩
theorem rep_tup {α : Type} {R : Hp → V → α → Prop} {enc : α → PyData} (r : Rep R enc) : Rep (TupV R) (fun l => .tuple (l.map enc)) :=
  ⟨fun t ⟨a, vs, e, h, p⟩ => ⟨a, vs, e, t _ _ h, pair_mono r t p⟩, fun {K H v x} ⟨a, vs, e, h, p⟩ => by
    subst e
    exact .tup (SqT.of h) (pair_dp r p)⟩

/-! ### encodings that tell things apart -/
structure GE {α : Type} [DecidableEq α] (enc : α → PyData) (d : Nat) : Prop where
  eqv : ∀ a b, PyData.eqv (enc a) (enc b) = decide (a = b)
  lay : ∀ a, (enc a).canLay0 = true
  depth : ∀ a, (enc a).depth ≤ d
  like : ∀ a b, PySem.W.alike (enc a) (enc b) = true
theorem ge_int : GE PyData.int 0 := ⟨fun a b => by simp [PyData.eqv, Bool.beq_eq_decide_eq], fun _ => by simp [PyData.canLay0], fun _ => by simp [PyData.depth], fun _ _ => by simp [PySem.W.alike]⟩
theorem ge_bool : GE PyData.bool 0 := ⟨fun a b => by cases a <;> cases b <;> decide, fun _ => by simp [PyData.canLay0], fun _ => by simp [PyData.depth], fun _ _ => by simp [PySem.W.alike]⟩
theorem eqvAll_map {α : Type} [DecidableEq α] {enc : α → PyData} {d : Nat} (g : GE enc d) : ∀ l m : List α, PyData.eqvAll (l.map enc) (m.map enc) = decide (l = m)
  | [], [] => by simp [PyData.eqvAll]
  | [], _ :: _ => by simp [PyData.eqvAll]
  | _ :: _, [] => by simp [PyData.eqvAll]
  | a :: l, b :: m => by
    rw [List.map_cons, List.map_cons, PySem.W.eqv_all_cons, g.eqv, eqvAll_map g l m]
    by_cases h1 : a = b <;> by_cases h2 : l = m <;> simp [h1, h2]
theorem layAll_map {α : Type} [DecidableEq α] {enc : α → PyData} {d : Nat} (g : GE enc d) : ∀ l : List α, PyData.canLayAll0 (l.map enc) = true
  | [] => by simp [PyData.canLayAll0]
  | a :: l => by simp [PyData.canLayAll0, g.lay, layAll_map g l]
theorem depthAll_map {α : Type} [DecidableEq α] {enc : α → PyData} {d : Nat} (g : GE enc d) : ∀ l : List α, PyData.depthAll (l.map enc) ≤ d
  | [] => by simp [PyData.depthAll]
  | a :: l => by
    have h1 := depthAll_map g l
    have h2 := g.depth a
    simp only [List.map_cons, PyData.depthAll]
    omega
theorem likeAll_map {α : Type} [DecidableEq α] {enc : α → PyData} {d : Nat} (g : GE enc d) : ∀ l m : List α, PySem.W.alikeAll (l.map enc) (m.map enc) = true
  | [], _ => by simp [PySem.W.alikeAll]
  | _ :: _, [] => by simp [PySem.W.alikeAll]
  | a :: l, b :: m => by
    have h := likeAll_map g l m
    simp [PySem.W.alikeAll, g.like, h]
theorem ge_tup {α : Type} [DecidableEq α] {enc : α → PyData} {d : Nat} (g : GE enc d) : GE (fun l : List α => PyData.tuple (l.map enc)) (d + 1) :=
  ⟨fun l m => by rw [← eqvAll_map g l m]; simp [PyData.eqv], fun l => by simp [PyData.canLay0, layAll_map g l], fun l => by
    have := depthAll_map g l
    simp only [PyData.depth]
    omega, fun l m => by simp [PySem.W.alike, likeAll_map g l m]⟩
theorem ge_list {α : Type} [DecidableEq α] {enc : α → PyData} {d : Nat} (g : GE enc d) : GE (fun l : List α => PyData.list (l.map enc)) (d + 1) :=
  ⟨fun l m => by rw [← eqvAll_map g l m]; simp [PyData.eqv], fun l => by simp [PyData.canLay0, layAll_map g l], fun l => by
    have := depthAll_map g l
    simp only [PyData.depth]
    omega, fun l m => by simp [PySem.W.alike, likeAll_map g l m]⟩
theorem ge_cell : GE cD 1 := ⟨fun a b => by
    obtain ⟨a1, a2⟩ := a
    obtain ⟨b1, b2⟩ := b
    have e : PyData.eqv (cD (a1, a2)) (cD (b1, b2)) = ((a1 == b1) && ((a2 == b2) && true)) := by simp only [cD, PyData.eqv, PyData.eqvAll]
    rw [e, Bool.and_true]
    by_cases h1 : a1 = b1 <;> by_cases h2 : a2 = b2 <;> simp [h1, h2], fun _ => by simp [cD, PyData.canLay0, PyData.canLayAll0], fun _ => by simp [cD, PyData.depth, PyData.depthAll], fun _ _ => by simp [cD, PySem.W.alike, PySem.W.alikeAll]⟩
theorem GE.shaped {α : Type} [DecidableEq α] {enc : α → PyData} {d : Nat} (g : GE enc d) (hd : d ≤ 64) (a : α) : SeqAt.shaped (enc a) = true := by
  have h := g.depth a
  show ((enc a).canLay0 && decide ((enc a).depth ≤ 64)) = true
  rw [Bool.and_eq_true]
  exact ⟨g.lay a, decide_eq_true (by omega)⟩

/-! ### == and in, by data -/
section
variable {K : PySem.W.Frag} {H : Hp} {x y : V} {α : Type} [DecidableEq α] {enc : α → PyData} {d : Nat} {a b : α} {Q : VK}
theorem eq_rd (g : GE enc d) (hd : d ≤ 64) (hx : Dp K H x (enc a)) (hy : Dp K H y (enc b)) (q : Q (.bl (decide (a = b))) H) : rEqD K x y H Q :=
  ⟨_, _, hx, hy, g.shaped hd a, g.shaped hd b, by rw [g.eqv]; exact q⟩
theorem ne_rd (g : GE enc d) (hd : d ≤ 64) (hx : Dp K H x (enc a)) (hy : Dp K H y (enc b)) (q : Q (.bl (!decide (a = b))) H) : rNeD K x y H Q :=
  ⟨_, _, hx, hy, g.shaped hd a, g.shaped hd b, by rw [g.eqv]; exact q⟩
/-- two lists -/
theorem eq_ls {R : Hp → V → α → Prop} {p q : Addr} {l m : List α} (r : Rep R enc) (g : GE enc d) (hd : d < 64) (hx : LsA R H p l) (hy : LsA R H q m) (k : Q (.bl (decide (l = m))) H) : rEqD K (.ref p) (.ref q) H Q :=
  eq_rd (ge_list g) hd (hx.dp r) (hy.dp r) k
theorem ne_ls {R : Hp → V → α → Prop} {p q : Addr} {l m : List α} (r : Rep R enc) (g : GE enc d) (hd : d < 64) (hx : LsA R H p l) (hy : LsA R H q m) (k : Q (.bl (!decide (l = m))) H) : rNeD K (.ref p) (.ref q) H Q :=
  ne_rd (ge_list g) hd (hx.dp r) (hy.dp r) k
end

/-! ### sorted -/
/-- a tuple or not, all alike -/
structure SE {α : Type} (enc : α → PyData) : Prop where
  so : (∀ b, ∃ x r, enc b = .tuple (x :: r)) ∨ (∀ b, enc b ≠ .none ∧ ∀ xs, enc b ≠ .tuple xs)
theorem SE.sortable {α : Type} {enc : α → PyData} (s : SE enc) (bs : List α) : PySem.W.Sortable (bs.map enc) := by
  rcases s.so with h | h
  · exact PySem.W.Sortable.tuples h
  · exact PySem.W.Sortable.others h
theorem se_cell : SE cD := ⟨.inl fun b => ⟨_, _, rfl⟩⟩
theorem se_int : SE PyData.int := ⟨.inr fun b => ⟨(fun z => nomatch z), (fun _ z => nomatch z)⟩⟩
def rSortR {α : Type} (K : PySem.W.Frag) (R : Hp → V → α → Prop) (enc : α → PyData) : List V → Hp → VK → Prop := fun vs H Q => ∃ (a : Addr) (xs : List V) (bs : List α), vs = [.ref a] ∧ SqL K H a xs ∧ Paired (R H) xs bs ∧
  ∀ (ys : List V) (p : Addr), H p = none → Paired (R H) ys (bs.mergeSort (PySem.W.dataLe false enc)) → Q (.ref p) (upd H p (.lst ys))
/-- carried along: the value and what it reads as -/
theorem each_of {α : Type} {F : V → α → Prop} : ∀ {xs : List V} {us : List Value} {bs : List α}, Vals xs us → Paired F xs bs → PySem.W.EachIs (fun u b => ∃ x, RelV x u ∧ F x b) us bs
  | _, _, _, .nil, .nil => .nil
  | _, _, _, .cons r t, .cons h k => .cons ⟨_, r, h⟩ (each_of t k)
theorem of_each {α : Type} {F : V → α → Prop} : ∀ {us : List Value} {bs : List α}, PySem.W.EachIs (fun u b => ∃ x, RelV x u ∧ F x b) us bs → ∃ xs, Vals xs us ∧ Paired F xs bs
  | _, _, .nil => ⟨[], .nil, .nil⟩
  | _, _, .cons ⟨x, r, h⟩ t => by
    obtain ⟨xs, r', h'⟩ := of_each t
    exact ⟨x :: xs, .cons r r', .cons h h'⟩
theorem cr_sortedR {α : Type} [DecidableEq α] {X : Cx} {R : Hp → V → α → Prop} {enc : α → PyData} {d : Nat} (hu : X.A.units + 64 < cLine) (r : Rep R enc) (g : GE enc d) (se : SE enc) (hd : d ≤ 32) :
    CallR X (.builtin "sorted") (rSortR X.K R enc) := by
  intro pins s σ H vs us Q I rv h
  obtain ⟨a, xs, bs, rfl, hs, hp, q⟩ := h
  obtain ⟨its, rx, hl, hz⟩ := I.list hs
  rw [Vals.ref1 rv]
  have e0 := each_of rx hp
  have hlen : bs.length ≤ sizeLine := by rw [← Paired.length hp]; exact hz
  have er : PySem.W.EachIs (fun u b => ∃ as, Reads s.heap u (enc b) as) its bs := e0.mono fun u b h => by
    obtain ⟨x, r1, r2⟩ := h
    exact Dp.reads I _ x u (r.dp r2) r1
  have hdep : ∀ b, b ∈ bs → X.A.units + 2 + (enc b).depth < cLine := fun b _ => by
    have := g.depth b
    omega
  refine PySem.W.sorted_data (R := fun u b => ∃ x, RelV x u ∧ R H x b) (enc := enc) hl.isList e0 er (PySem.W.AllAlike.of g.like) (se.sortable bs) hlen hdep ?_
  intro out h1 h2
  obtain ⟨ys, ry, py⟩ := of_each h2
  obtain ⟨ep, he'⟩ := PyProof.Rows.sortedAll_at s.heap its out.toArray
  have hyl : ys.length ≤ sizeLine := by rw [ry.length, h1]; exact hlen
  exact ⟨.ref _, upd H (s.heap.objs.size + 1) (.lst ys), I.laid (t' := s.toks) (fun _ _ => PyProof.Rows.sortedAll_old) (Nat.le_succ _) ⟨hyl, out, ep, ry, he'⟩, rfl, q _ _ (I.hok.fresh (Nat.le_succ _)) py⟩

/-! ### callees in one bundle -/
/-- the def named x keeps the promise sp -/
def Df (P : Program) (w : World) (K : PySem.W.Frag) (mg : Str → Option Value) (base : Heap) (x : Str) (k : Nat) (ps : List Str) (sp : Sp) : Prop :=
  ∃ f fd, FnOk P w K mg base CX0 k f fd ps sp ∧ mg x = some (.ref f) ∧ PySem.W.keepIn K (.ref f) = true ∧ Binds K fd ps []
theorem Df.mono {P : Program} {w : World} {K : PySem.W.Frag} {mg : Str → Option Value} {base : Heap} {x : Str} {j k : Nat} {ps : List Str} {sp : Sp} (D : Df P w K mg base x j ps sp) (h : j ≤ k) : Df P w K mg base x k ps sp :=
  let ⟨f, fd, F, a, b, c⟩ := D
  ⟨f, fd, F.mono h, a, b, c⟩
theorem pe_cl {X : Cx} {x : Str} {k : Nat} {ps : List Str} {sp : Sp} {e : Expr} {es : List Expr} {p pos : Pos} {t : TA} (D : Df X.prog X.w X.K X.mg X.base x k ps sp) (hr : Room k X.A) (ha : PA X (e :: es) t) (hg : Gl X x := by rfl)
    (hd : (x == ("__debug__" : Str)) = false := by decide) (he : starEach (e :: es) X.env = (false, eval e X.env) :: starEach es X.env := by rfl) (hpl : (backTo pos (starEach es X.env)).any (·.1) = false := by rfl) :
    PE X (.Call (.Name x p) (e :: es) [] pos) (tCall sp [] E0 t) := by
  obtain ⟨f, fd, F, a, b, c⟩ := D
  exact pe_call F hr hg a b c .nil pass0 ha hd he hpl
theorem pe_cl0 {X : Cx} {x : Str} {k : Nat} {sp : Sp} {p pos : Pos} (D : Df X.prog X.w X.K X.mg X.base x k [] sp) (hr : Room k X.A) (hg : Gl X x := by rfl)
    (hd : (x == ("__debug__" : Str)) = false := by decide) : PE X (.Call (.Name x p) [] [] pos) (tCall sp [] E0 tNil) := by
  obtain ⟨f, fd, F, a, b, c⟩ := D
  exact pe_call0 F hr hg a b c .nil pass0 hd
/-- a method of the class at C -/
def Mf (P : Program) (w : World) (K : PySem.W.Frag) (mg : Str → Option Value) (base : Heap) (C : Addr) (m : Str) (k : Nat) (ps : List Str) (sp : Sp) : Prop :=
  ∃ f fd, FnOk P w K mg base CX0 k f fd ps sp ∧ Meth K C m f ∧ Binds K fd ps []
theorem pe_mth0 {X : Cx} {C : Addr} {m : Str} {k : Nat} {ps : List Str} {sp : Sp} {o : Expr} {pos apos : Pos} {ta : TE} {pl : Sem Bool} (he : PE X o ta) (c : Cls X.K C) (M : Mf X.prog X.w X.K X.mg X.base C m k ps sp) (hr : Room k X.A)
    (ht : eval (.Call (.Attribute o m apos) [] [] pos) X.env = (do
      let ov ← eval o X.env
      standAt apos.atName
      let (f, first) ← holding [ov] (getMethod ov m pl)
      callWith pos f first (backTo pos (starEach [] X.env)) (backToKw pos (keywordEach [] X.env))) := by rfl) :
    PE X (.Call (.Attribute o m apos) [] [] pos) (tMeth C m sp [] E0 ta tNil) := by
  obtain ⟨f, fd, F, a, b⟩ := M
  exact pe_meth0 he c a F hr b .nil pass0 ht
/-- the class at C, made by an __init__ that keeps the promise -/
def Bm (P : Program) (w : World) (K : PySem.W.Frag) (mg : Str → Option Value) (base : Heap) (x : Str) (C : Addr) (k : Nat) (ps : List Str) (sp : Sp) : Prop :=
  ∃ f fd, FnOk P w K mg base CX0 k f fd ps sp ∧ Mk K C f ∧ mg x = some (.ref C) ∧ Binds K fd ps []
theorem pe_mk {X : Cx} {x : Str} {C : Addr} {k : Nat} {ps : List Str} {sp : Sp} {e : Expr} {es : List Expr} {p pos : Pos} {t : TA} (D : Bm X.prog X.w X.K X.mg X.base x C k ps sp) (hr : Room (k + 1) X.A) (ha : PA X (e :: es) t) (hg : Gl X x := by rfl)
    (hd : (x == ("__debug__" : Str)) = false := by decide) (he : starEach (e :: es) X.env = (false, eval e X.env) :: starEach es X.env := by rfl) (hpl : (backTo pos (starEach es X.env)).any (·.1) = false := by rfl) :
    PE X (.Call (.Name x p) (e :: es) [] pos) (tMake C sp [] E0 t) := by
  obtain ⟨f, fd, F, M, a, b⟩ := D
  exact pe_make M F hr hg a b .nil pass0 ha hd he hpl
/-- a def of the module as the top left it -/
def DefIn (K : PySem.W.Frag) (mg : Str → Option Value) (x : Str) (st : Stmt) (ps : List Str) : Prop := ∃ f fd, Fun K x x st f fd ∧ mg x = some (.ref f) ∧ Binds K fd ps []
theorem DefIn.df {P : Program} {w : World} {K : PySem.W.Frag} {mg : Str → Option Value} {base : Heap} {x : Str} {st : Stmt} {k : Nat} {ps : List Str} {sp : Sp} (D : DefIn K mg x st ps)
    (ok : ∀ f fd, Fun K x x st f fd → FnOk P w K mg base CX0 k f fd ps sp) : Df P w K mg base x k ps sp :=
  let ⟨f, fd, F, a, b⟩ := D
  ⟨f, fd, ok f fd F, a, F.kp, b⟩
def MethIn (K : PySem.W.Frag) (C : Addr) (m q : Str) (st : Stmt) (ps : List Str) : Prop := ∃ f fd, Fun K m q st f fd ∧ Meth K C m f ∧ Binds K fd ps []
theorem MethIn.mf {P : Program} {w : World} {K : PySem.W.Frag} {mg : Str → Option Value} {base : Heap} {C : Addr} {m q : Str} {st : Stmt} {k : Nat} {ps : List Str} {sp : Sp} (D : MethIn K C m q st ps)
    (ok : ∀ f fd, Fun K m q st f fd → FnOk P w K mg base CX0 k f fd ps sp) : Mf P w K mg base C m k ps sp :=
  let ⟨f, fd, F, a, b⟩ := D
  ⟨f, fd, ok f fd F, a, b⟩
def InitIn (K : PySem.W.Frag) (mg : Str → Option Value) (x : Str) (C : Addr) (q : Str) (st : Stmt) (ps : List Str) : Prop := ∃ f fd, Fun K "__init__" q st f fd ∧ Mk K C f ∧ mg x = some (.ref C) ∧ Binds K fd ps []
theorem InitIn.bm {P : Program} {w : World} {K : PySem.W.Frag} {mg : Str → Option Value} {base : Heap} {x : Str} {C : Addr} {q : Str} {st : Stmt} {k : Nat} {ps : List Str} {sp : Sp} (D : InitIn K mg x C q st ps)
    (ok : ∀ f fd, Fun K "__init__" q st f fd → FnOk P w K mg base CX0 k f fd ps sp) : Bm P w K mg base x C k ps sp :=
  let ⟨f, fd, F, a, b, c⟩ := D
  ⟨f, fd, ok f fd F, a, b, c⟩
/-- a module's whole number -/
theorem pe_gint {X : Cx} {x : Str} {i : Int} {pos : Pos} (h : ∃ t, X.mg x = some (.int i t)) (hg : Gl X x := by rfl) (hd : (x == ("__debug__" : Str)) = false := by decide) : PE X (.Name x pos) (tC (.int i)) := by
  obtain ⟨t, h⟩ := h
  exact pe_glob hg h ⟨_, rfl⟩ hd

/-! ### the rules with the written part said -/
section
variable {X : Cx} {e a b l tg : Expr} {ta tb te tl to : TE} {f : Str} {pos apos cpos : Pos} {es : List Expr}
theorem pe_fldK (K : PySem.W.Frag) (hK : X.K = K) (he : PE X e ta) (hb : attributeBase e f X.env (eval e X.env) = eval e X.env) : PE X (.Attribute e f pos) (tFld K ta f) := by
  subst hK; exact pe_fld he hb
theorem pg_tupK (K : PySem.W.Frag) (n : Nat) (hK : X.K = K) {k : Nat} {t : TGs} (hc : X.calm = true) (h : PGs X es t) (hn : (assignEach es X.env).length = n) (hst : (assignEach es X.env).findIdx? (·.1) = none) : PG X (.Tuple es k pos) (gTup K n t) := by
  subst hK; exact pg_tup hc h hn hst
theorem pe_ixLK (K : PySem.W.Frag) (hK : X.K = K) (ha : PE X a ta) (hb : PE X b tb) (hs : PlainIx b) : PE X (.Subscript a b pos) (tOp (rIxL K) ta tb) := by
  subst hK; exact pe_ix ix_list ha hb hs
theorem pe_ixTK (K : PySem.W.Frag) (hK : X.K = K) (ha : PE X a ta) (hb : PE X b tb) (hs : PlainIx b) : PE X (.Subscript a b pos) (tOp (rIxT K) ta tb) := by
  subst hK; exact pe_ix ix_tup ha hb hs
theorem pi_listK (K : PySem.W.Frag) (hK : X.K = K) (hl : PE X l tl) : PI X tg l (iList K tl) := by
  subst hK; exact pi_list hl
theorem pi_tupK (K : PySem.W.Frag) (hK : X.K = K) (hl : PE X l tl) : PI X tg l (iTup K tl) := by
  subst hK; exact pi_tup hl
def rListOf (K : PySem.W.Frag) : List V → Hp → VK → Prop := fun xs H Q => ∃ p ys, xs = [.ref p] ∧ (SqL K H p ys ∨ SqT K H p ys) ∧ ∀ l, H l = none → Q (.ref l) (upd H l (.lst ys))
def rTupOf (K : PySem.W.Frag) : List V → Hp → VK → Prop := fun xs H Q => ∃ p ys, xs = [.ref p] ∧ ((SqL K H p ys ∧ ∀ l, H l = none → Q (.ref l) (upd H l (.tup ys))) ∨ (SqT K H p ys ∧ Q (.ref p) H))
def rLenOf (K : PySem.W.Frag) : List V → Hp → VK → Prop := fun xs H Q => ∃ p ys, xs = [.ref p] ∧ (SqL K H p ys ∨ SqT K H p ys) ∧ Q (.int ys.length) H
theorem cr_list (K : PySem.W.Frag) (hK : X.K = K) : CallR X (.type "list") (rListOf K) := by subst hK; exact call_list_of
theorem cr_tuple (K : PySem.W.Frag) (hK : X.K = K) : CallR X (.type "tuple") (rTupOf K) := by subst hK; exact call_tuple_of
theorem cr_len (K : PySem.W.Frag) (hK : X.K = K) : CallR X (.builtin "len") (rLenOf K) := by subst hK; exact call_len_seq
theorem cr_isi (K : PySem.W.Frag) (hK : X.K = K) : CallR X (.builtin "isinstance") (rIsi K) := by subst hK; exact call_isi
theorem op_eqK (K : PySem.W.Frag) (hK : X.K = K) (hu : X.A.units + 64 < cLine) : OpR X (compareOp .Eq) (rEqD K) := by subst hK; exact op_eqD hu
theorem op_neK (K : PySem.W.Frag) (hK : X.K = K) (hu : X.A.units + 64 < cLine) : OpR X (compareOp .NotEq) (rNeD K) := by subst hK; exact op_neD hu
theorem op_inK (K : PySem.W.Frag) (hK : X.K = K) : OpR X (compareOp .In) (rIn K false) := by subst hK; exact op_in_seq
theorem op_notInK (K : PySem.W.Frag) (hK : X.K = K) : OpR X (compareOp .NotIn) (rIn K true) := by subst hK; exact op_notIn_seq
theorem sl_lK (K : PySem.W.Frag) (hK : X.K = K) : SlR X (rSlL K) := by subst hK; exact sl_list
theorem cr_sortK (K : PySem.W.Frag) {α : Type} [DecidableEq α] {R : Hp → V → α → Prop} {enc : α → PyData} {d : Nat} (r : Rep R enc) (g : GE enc d) (se : SE enc) (hd : d ≤ 32) (hK : X.K = K) (hu : X.A.units + 64 < cLine) :
    CallR X (.builtin "sorted") (rSortR K R enc) := by subst hK; exact cr_sortedR hu r g se hd
theorem pe_bmK (K : PySem.W.Frag) (hK : X.K = K) {T id : String} {name : Str} {r : V → List V → Hp → VK → Prop} {o e : Expr} {es : List Expr} {t : TA} (pa : PlainAttrs T) (slot : Slot T name id) (hty : typeOf (.builtin id) = pure (.type "method_descriptor")) (hm : MtR X id r) (ho : PE X o to) (ha : PA X (e :: es) t)
    (hbase : attributeBase o name X.env (eval o X.env) = eval o X.env := by rfl)
    (hfew : ((backTo cpos (starEach (e :: es) X.env)).all (fun x => !x.1) && (backToKw cpos (keywordEach [] X.env)).all (fun x => x.1.isSome)
      && decide ((e :: es).length + ([] : List Keyword).length + (if ([] : List Keyword).isEmpty then 0 else 1) < 30)) = true := by rfl)
    (hline : (apos.endLine == cpos.line) = true := by rfl) (hs : starEach (e :: es) X.env = (false, eval e X.env) :: starEach es X.env := by rfl) (hplain : (backTo cpos (starEach es X.env)).any (·.1) = false := by rfl) :
    PE X (.Call (.Attribute o name apos) (e :: es) [] cpos) (tBM K T r to t) := by
  subst hK; exact pe_bm pa slot hty hm ho ha hbase hfew hline hs hplain
theorem pe_bm0K (K : PySem.W.Frag) (hK : X.K = K) {T id : String} {name : Str} {r : V → List V → Hp → VK → Prop} {o : Expr} (pa : PlainAttrs T) (slot : Slot T name id) (hty : typeOf (.builtin id) = pure (.type "method_descriptor")) (hm : MtR X id r) (ho : PE X o to)
    (hbase : attributeBase o name X.env (eval o X.env) = eval o X.env := by rfl) (hline : (apos.endLine == cpos.line) = true := by rfl) : PE X (.Call (.Attribute o name apos) [] [] cpos) (tBM0 K T r to) := by
  subst hK; exact pe_bm0 pa slot hty hm ho hbase hline
end

/-! ### ways joined behind a statement -/
def tCut (t : TS) : TS := fun D σ H => ∃ P : L2.St → Hp → Prop, t { D with nx := P } σ H ∧ ∀ σ' H', P σ' H' → D.nx σ' H'
theorem ps_cut {X : Cx} {st : Stmt} {t : TS} (h : PS X st t) : PS X st (tCut t) := by
  refine ⟨fun pins s σ H D I hw => ?_⟩
  obtain ⟨P, hw, hk⟩ := hw
  refine thn (h.run pins s σ H _ I hw) fun f s' hs => ?_
  cases f with
  | next =>
    obtain ⟨σ', H', J, q⟩ := hs
    exact ⟨σ', H', J, hk _ _ q⟩
  | brk => exact hs
  | cont => exact hs
  | ret u => exact hs
/-! ### the built-in names -/
structure Bl (mg : Str → Option Value) : Prop where
  len : mg "len" = none
  range : mg "range" = none
  sorted : mg "sorted" = none
  list : mg "list" = none
  tuple : mg "tuple" = none
  isinstance : mg "isinstance" = none
  min : mg "min" = none
  max : mg "max" = none
  sum : mg "sum" = none
  int : mg "int" = none
  bool : mg "bool" = none
  str : mg "str" = none
theorem bt_len : bootBuiltins "len" = some (.builtin "len") := by decide +kernel
theorem bt_sorted : bootBuiltins "sorted" = some (.builtin "sorted") := by decide +kernel
theorem bt_isinstance : bootBuiltins "isinstance" = some (.builtin "isinstance") := by decide +kernel
theorem bt_min : bootBuiltins "min" = some (.builtin "min") := by decide +kernel
theorem bt_max : bootBuiltins "max" = some (.builtin "max") := by decide +kernel
theorem bt_sum : bootBuiltins "sum" = some (.builtin "sum") := by decide +kernel
theorem bt_list : bootBuiltins "list" = some (.type "list") := by decide +kernel
theorem bt_tuple : bootBuiltins "tuple" = some (.type "tuple") := by decide +kernel
theorem bt_int : bootBuiltins "int" = some (.type "int") := by decide +kernel
theorem bt_bool : bootBuiltins "bool" = some (.type "bool") := by decide +kernel
theorem bt_str : bootBuiltins "str" = some (.type "str") := by decide +kernel

theorem putF_len (f : Str) (v : V) : ∀ fs : List (Str × V), (putF f v fs).length ≤ fs.length + 1
  | [] => by simp [putF]
  | (x, u) :: r => by
    unfold putF
    split
    · simp
    · have := putF_len f v r
      simp only [List.length_cons]
      omega
theorem big_line : 1000000 < sizeLine := by decide
/-! ### ifs -/
theorem iteN {P A B : Prop} [Decidable P] (h : ¬ P) (b : B) : if decide P = true then A else B := by rw [decide_eq_false h]; exact iteF b
theorem iteY {P A B : Prop} [Decidable P] (h : P) (a : A) : if decide P = true then A else B := by rw [decide_eq_true h]; exact iteT a
theorem iteD {P A B : Prop} [Decidable P] (a : P → A) (b : ¬ P → B) : if decide P = true then A else B := by
  by_cases h : P
  · exact iteY h (a h)
  · exact iteN h (b h)
theorem iteB {b : Bool} {A B : Prop} (t : b = true → A) (f : b = false → B) : if b = true then A else B := by
  cases b with
  | true => exact iteT (t rfl)
  | false => exact iteF (f rfl)
theorem getE {α β : Type} {F : α → β → Prop} : ∀ {xs : List α} {ys : List β} {i : Nat} {x : α}, Paired F xs ys → xs[i]? = some x → ∃ y, ys[i]? = some y ∧ F x y
  | _, _, _, _, .nil, e => by simp at e
  | _, _, 0, _, .cons r _, e => by simp at e; subst e; exact ⟨_, rfl, r⟩
  | _, _, i + 1, x, .cons _ t, e => by
    obtain ⟨u, h1, h2⟩ := getE (i := i) (x := x) t (by simpa using e)
    exact ⟨u, by simpa using h1, h2⟩
end CF

set_option Elab.async false
set_option linter.all false
set_option maxRecDepth 100000
set_option maxHeartbeats 4000000
/-! CFData: what a Board looks like, its plain functions. -/
namespace CF
open PySem PySem.Spec PyProof.Rows L2

/-- a cell as a key, an entry of the dict of gaps -/
def ck (c : Cell) : List Key := [.inl c.1, .inl c.2]
def gE (c : Cell) : List Key × V := (ck c, .bl true)
theorem ck_inj {a b : Cell} (h : ck a = ck b) : a = b := by
  unfold ck at h
  injection h with h1 h2
  injection h2 with h2 _
  injection h1 with h1
  injection h2 with h2
  exact Prod.ext h1 h2
theorem ck_iff {a b : Cell} : ck a = ck b ↔ a = b := ⟨ck_inj, fun h => by rw [h]⟩
theorem valV_gE (g : List Cell) (c : Cell) : valV (g.map gE) (ck c) = if c ∈ g then some (.bl true) else none := by
  induction g with
  | nil => simp [valV_nil]
  | cons a g ih =>
    rw [List.map_cons]
    by_cases h : a = c
    · subst h
      rw [valV_pos (by rfl)]
      simp [gE]
    · rw [valV_neg (fun e => h (ck_inj e)), ih]
      have : ¬ c = a := fun e => h e.symm
      simp [this]
theorem valV_gE_some (g : List Cell) (c : Cell) : (valV (g.map gE) (ck c)).isSome = decide (c ∈ g) := by
  rw [valV_gE]
  by_cases h : c ∈ g <;> simp [h]
theorem putK_gE {g : List Cell} {c : Cell} (h : c ∉ g) : putK (g.map gE) (ck c) (.bl true) = (g ++ [c]).map gE := by
  rw [putK_new _ (by rw [valV_gE, if_neg h]), List.map_append]
  rfl
theorem valV_gE_put (g : List Cell) (c : Cell) : putK (g.map gE) (ck c) (.bl true) = (if c ∈ g then g else g ++ [c]).map gE := by
  by_cases h : c ∈ g
  · rw [if_pos h]
    unfold putK
    have : ((g.map gE).any fun kv => decide (kv.1 = ck c)) = true := by
      rw [valV_any, valV_gE, if_pos h]; rfl
    rw [if_pos this, List.map_map]
    refine List.map_congr_left fun x _ => ?_
    show (if (gE x).1 = ck c then ((gE x).1, V.bl true) else gE x) = gE x
    split <;> rfl
  · rw [if_neg h, putK_gE h]

/-- the cells of a board -/
def InB (w h : Int) (g : List Cell) : Prop := ∀ c ∈ g, 0 ≤ c.1 ∧ c.1 < w ∧ 0 ≤ c.2 ∧ c.2 < h
def Sides (w h : Int) : Prop := 1 ≤ w ∧ w ≤ 16 ∧ 1 ≤ h ∧ h ≤ 16
/-- the open cells of the column x below y -/
def colTo (g : List Cell) (x : Int) (n : Nat) : List Cell := ((List.range n).map fun k : Nat => ((x, (k : Int)) : Cell)).filter fun c => decide (c ∉ g)
def openTo (g : List Cell) (h : Int) (n : Nat) : List Cell := (List.range n).flatMap fun k : Nat => colTo g (k : Int) h.toNat
def openC (w h : Int) (g : List Cell) : List Cell := openTo g h w.toNat
theorem colTo_succ (g : List Cell) (x : Int) (n : Nat) : colTo g x (n + 1) = colTo g x n ++ if (x, (n : Int)) ∈ g then [] else [(x, (n : Int))] := by
  unfold colTo
  rw [List.range_succ, List.map_append, List.filter_append]
  congr 1
  by_cases h : (x, (n : Int)) ∈ g <;> simp [h]
theorem openTo_succ (g : List Cell) (h : Int) (n : Nat) : openTo g h (n + 1) = openTo g h n ++ colTo g (n : Int) h.toNat := by
  unfold openTo
  rw [List.range_succ, List.flatMap_append]
  simp
theorem colTo_length (g : List Cell) (x : Int) (n : Nat) : (colTo g x n).length ≤ n := by
  unfold colTo
  exact Nat.le_trans (List.length_filter_le _ _) (by simp)
theorem openTo_length (g : List Cell) (h : Int) (n : Nat) : (openTo g h n).length ≤ n * h.toNat := by
  induction n with
  | zero => simp [openTo]
  | succ n ih =>
    rw [openTo_succ, List.length_append, Nat.succ_mul]
    have := colTo_length g (n : Int) h.toNat
    omega

theorem nodup_rev {α : Type} {l : List α} (h : l.Nodup) : l.reverse.Nodup := List.pairwise_reverse.mpr (List.Pairwise.imp (fun h => Ne.symm h) h)
/-- how a Board's attributes stand -/
def bF (w h : Int) (d : Addr) : List (Str × V) := putF "missing" (.ref d) (putF "high" (.int h) (putF "wide" (.int w) []))
theorem n_wh : ¬ (("wide" : Str) = "high") := by decide +kernel
theorem n_wm : ¬ (("wide" : Str) = "missing") := by decide +kernel
theorem n_hm : ¬ (("high" : Str) = "missing") := by decide +kernel
theorem bF_wide (w h : Int) (d : Addr) : (bF w h d).lookup ("wide" : Str) = some (.int w) := by
  unfold bF
  rw [lookup_putF, if_neg n_wm, lookup_putF, if_neg n_wh, lookup_putF, if_pos rfl]
theorem bF_high (w h : Int) (d : Addr) : (bF w h d).lookup ("high" : Str) = some (.int h) := by
  unfold bF
  rw [lookup_putF, if_neg n_hm, lookup_putF, if_pos rfl]
theorem bF_missing (w h : Int) (d : Addr) : (bF w h d).lookup ("missing" : Str) = some (.ref d) := by
  unfold bF
  rw [lookup_putF, if_pos rfl]
theorem bF_no (w h : Int) (d : Addr) {m : Str} (h1 : ¬ m = "missing") (h2 : ¬ m = "high") (h3 : ¬ m = "wide") : (bF w h d).lookup m = none := by
  unfold bF
  rw [lookup_putF, if_neg h1, lookup_putF, if_neg h2, lookup_putF, if_neg h3]
  all_goals rfl
theorem bF_width (w h : Int) (d : Addr) : (bF w h d).lookup ("width" : Str) = none := bF_no w h d (by decide +kernel) (by decide +kernel) (by decide +kernel)
theorem bF_height (w h : Int) (d : Addr) : (bF w h d).lookup ("height" : Str) = none := bF_no w h d (by decide +kernel) (by decide +kernel) (by decide +kernel)
theorem bF_gaps (w h : Int) (d : Addr) : (bF w h d).lookup ("gaps" : Str) = none := bF_no w h d (by decide +kernel) (by decide +kernel) (by decide +kernel)
theorem bF_open (w h : Int) (d : Addr) : (bF w h d).lookup ("open_cells" : Str) = none := bF_no w h d (by decide +kernel) (by decide +kernel) (by decide +kernel)
/-- a Board stands at p -/
structure BoardAt (C : Addr) (H : Hp) (p : Addr) (w h : Int) (g : List Cell) : Prop where
  ob : ∃ dx d, H p = some (.ins C dx (bF w h d)) ∧ H d = some (.dT (g.map gE))
  sd : Sides w h
  nd : g.Nodup
  inb : InB w h g
theorem BoardAt.keep {C : Addr} {H H' : Hp} {p : Addr} {w h : Int} {g : List Cell} (b : BoardAt C H p w h g) (s : Same H H') : BoardAt C H' p w h g :=
  ⟨let ⟨dx, d, e1, e2⟩ := b.ob; ⟨dx, d, s _ _ e1, s _ _ e2⟩, b.sd, b.nd, b.inb⟩
theorem nodup_le {α : Type} [DecidableEq α] : ∀ (l m : List α), l.Nodup → (∀ x ∈ l, x ∈ m) → l.length ≤ m.length
  | [], _, _, _ => Nat.zero_le _
  | x :: l, m, hn, hs => by
    have hx : x ∈ m := hs x List.mem_cons_self
    have hn' := List.nodup_cons.mp hn
    have h := nodup_le l (m.erase x) hn'.2 fun y hy => by
      have hne : y ≠ x := fun e => hn'.1 (e ▸ hy)
      exact (List.mem_erase_of_ne hne).mpr (hs y (List.mem_cons_of_mem _ hy))
    have e := List.length_erase_of_mem hx
    have p : 0 < m.length := List.length_pos_of_mem hx
    simp only [List.length_cons]
    omega
def grid : List Cell := (List.range 16).flatMap fun x : Nat => (List.range 16).map fun y : Nat => (((x : Nat) : Int), ((y : Nat) : Int))
theorem grid_length : grid.length = 256 := by decide +kernel
theorem inb_length {w h : Int} {g : List Cell} (sd : Sides w h) (nd : g.Nodup) (ib : InB w h g) : g.length ≤ 256 := by
  rw [← grid_length]
  refine nodup_le g grid nd fun c hc => ?_
  obtain ⟨h1, h2, h3, h4⟩ := ib c hc
  obtain ⟨s1, s2, s3, s4⟩ := sd
  unfold grid
  rw [List.mem_flatMap]
  refine ⟨c.1.toNat, List.mem_range.mpr (by omega), List.mem_map.mpr ⟨c.2.toNat, List.mem_range.mpr (by omega), ?_⟩⟩
  have e1 : ((c.1.toNat : Nat) : Int) = c.1 := by omega
  have e2 : ((c.2.toNat : Nat) : Int) = c.2 := by omega
  show ((((c.1.toNat : Nat) : Int), ((c.2.toNat : Nat) : Int)) : Cell) = c
  rw [e1, e2]
end CF

set_option Elab.async false
set_option linter.all false
set_option maxRecDepth 100000
set_option maxHeartbeats 4000000
/-! CFMath: sorted cells, the open cells of a board two ways. -/
namespace CF
open PySem PySem.Spec PyProof.Rows L2

def leC (a b : Cell) : Bool := decide (a.1 < b.1 ∨ (a.1 = b.1 ∧ a.2 ≤ b.2))
theorem leC_eq : PySem.W.dataLe false cD = leC := PySem.W.dataLe_ii (fun c : Cell => c.1) (fun c => c.2)
theorem leC_trans (a b c : Cell) (h1 : leC a b = true) (h2 : leC b c = true) : leC a c = true := by
  simp only [leC, decide_eq_true_eq] at *
  omega
theorem leC_total (a b : Cell) : (leC a b || leC b a) = true := by
  simp only [leC, Bool.or_eq_true, decide_eq_true_eq]
  omega
theorem leC_anti (a b : Cell) (h1 : leC a b = true) (h2 : leC b a = true) : a = b := by
  simp only [leC, decide_eq_true_eq] at *
  exact Prod.ext (by omega) (by omega)
abbrev sortC (g : List Cell) : List Cell := g.mergeSort (PySem.W.dataLe false cD)
theorem sortC_pairwise (g : List Cell) : (sortC g).Pairwise (fun a b => leC a b = true) := by
  unfold sortC
  rw [leC_eq]
  exact List.pairwise_mergeSort leC_trans leC_total g
theorem sortC_perm (g : List Cell) : (sortC g).Perm g := List.mergeSort_perm _ _
theorem sortC_of (g m : List Cell) (hp : m.Perm g) (hs : m.Pairwise (fun a b => leC a b = true)) : sortC g = m :=
  List.Perm.eq_of_pairwise (le := fun a b => leC a b = true) (fun a b _ _ => leC_anti a b) (sortC_pairwise g) hs ((sortC_perm g).trans hp.symm)
theorem sortC_congr {g m : List Cell} (h : g.Perm m) : sortC g = sortC m := sortC_of g _ ((sortC_perm m).trans h.symm) (sortC_pairwise m)
theorem mem_sortC {g : List Cell} {c : Cell} : c ∈ sortC g ↔ c ∈ g := (sortC_perm g).mem_iff
theorem sortC_nodup {g : List Cell} (h : g.Nodup) : (sortC g).Nodup := (sortC_perm g).symm.nodup h

/-- the law's way through the open cells -/
def lawTo (h : Int) (g : List Cell) (n : Nat) : List Cell := ((List.range n).map fun k : Nat => (((k : Int) / h, (k : Int) % h) : Cell)).filter fun c => decide (c ∉ g)
theorem lawTo_succ (h : Int) (g : List Cell) (n : Nat) : lawTo h g (n + 1) = lawTo h g n ++ if ((n : Int) / h, (n : Int) % h) ∈ g then [] else [((n : Int) / h, (n : Int) % h)] := by
  unfold lawTo
  rw [List.range_succ, List.map_append, List.filter_append]
  congr 1
  by_cases q : ((n : Int) / h, (n : Int) % h) ∈ g <;> simp [q]
theorem lawTo_length (h : Int) (g : List Cell) (n : Nat) : (lawTo h g n).length ≤ n := by
  unfold lawTo
  exact Nat.le_trans (List.length_filter_le _ _) (by simp)
theorem lawTo_row (h : Nat) (g : List Cell) (m : Nat) : ∀ j, j ≤ h → lawTo (h : Int) g (m * h + j) = lawTo (h : Int) g (m * h) ++ colTo g (m : Int) j
  | 0, _ => by simp [colTo]
  | j + 1, hj => by
    rw [← Nat.add_assoc, lawTo_succ, lawTo_row h g m j (by omega), colTo_succ, List.append_assoc]
    have hp : (0 : Int) < (h : Int) := by omega
    have e1 : ((m * h + j : Nat) : Int) / (h : Int) = (m : Int) := by
      rw [show ((m * h + j : Nat) : Int) = (j : Int) + (m : Int) * (h : Int) by rw [Int.natCast_add, Int.natCast_mul, Int.add_comm]]
      rw [Int.add_mul_ediv_right _ _ (by omega), Int.ediv_eq_zero_of_lt (by omega) (by omega), Int.zero_add]
    have e2 : ((m * h + j : Nat) : Int) % (h : Int) = (j : Int) := by
      rw [show ((m * h + j : Nat) : Int) = (j : Int) + (m : Int) * (h : Int) by rw [Int.natCast_add, Int.natCast_mul, Int.add_comm]]
      rw [Int.add_mul_emod_self_right, Int.emod_eq_of_lt (by omega) (by omega)]
    rw [e1, e2]
theorem lawTo_open (h : Nat) (g : List Cell) : ∀ m, lawTo (h : Int) g (m * h) = openTo g (h : Int) m
  | 0 => by simp [lawTo, openTo]
  | m + 1 => by
    rw [Nat.succ_mul, lawTo_row h g m h (Nat.le_refl _), openTo_succ, lawTo_open h g m]
    rfl
theorem colTo_congr {g g' : List Cell} (e : ∀ c, c ∈ g ↔ c ∈ g') (x : Int) (n : Nat) : colTo g x n = colTo g' x n := by
  unfold colTo
  congr 1
  funext c
  simp [e c]
theorem openC_congr {g g' : List Cell} (e : ∀ c, c ∈ g ↔ c ∈ g') (w h : Int) : openC w h g = openC w h g' := by
  unfold openC openTo
  congr 1
  funext k
  exact colTo_congr e _ _
theorem mem_colTo {g : List Cell} {x : Int} {n : Nat} {c : Cell} : c ∈ colTo g x n ↔ c.1 = x ∧ 0 ≤ c.2 ∧ c.2 < (n : Int) ∧ c ∉ g := by
  unfold colTo
  rw [List.mem_filter, List.mem_map]
  constructor
  · rintro ⟨⟨k, hk, rfl⟩, h⟩
    have := List.mem_range.mp hk
    refine ⟨rfl, by dsimp only; omega, by dsimp only; omega, by simpa using h⟩
  · rintro ⟨h1, h2, h3, h4⟩
    refine ⟨⟨c.2.toNat, List.mem_range.mpr (by omega), Prod.ext h1.symm (by dsimp only; omega)⟩, by simpa using h4⟩
theorem mem_openTo {g : List Cell} {h : Int} {n : Nat} {c : Cell} : c ∈ openTo g h n ↔ 0 ≤ c.1 ∧ c.1 < (n : Int) ∧ 0 ≤ c.2 ∧ c.2 < h ∧ c ∉ g := by
  unfold openTo
  rw [List.mem_flatMap]
  constructor
  · rintro ⟨k, hk, hc⟩
    have := List.mem_range.mp hk
    obtain ⟨h1, h2, h3, h4⟩ := mem_colTo.mp hc
    exact ⟨by omega, by omega, h2, by omega, h4⟩
  · rintro ⟨h1, h2, h3, h4, h5⟩
    exact ⟨c.1.toNat, List.mem_range.mpr (by omega), mem_colTo.mpr ⟨by omega, h3, by omega, h5⟩⟩
theorem mem_openC {g : List Cell} {w h : Int} {c : Cell} : c ∈ openC w h g ↔ 0 ≤ c.1 ∧ c.1 < w ∧ 0 ≤ c.2 ∧ c.2 < h ∧ c ∉ g := by
  unfold openC
  rw [mem_openTo]
  constructor
  · rintro ⟨h1, h2, h3⟩
    exact ⟨h1, by omega, h3⟩
  · rintro ⟨h1, h2, h3⟩
    exact ⟨h1, by omega, h3⟩
/-- strictly rising -/
def ltC (a b : Cell) : Prop := a.1 < b.1 ∨ (a.1 = b.1 ∧ a.2 < b.2)
theorem colTo_rising (g : List Cell) (x : Int) (n : Nat) : (colTo g x n).Pairwise ltC := by
  induction n with
  | zero => simp [colTo]
  | succ n ih =>
    rw [colTo_succ]
    split
    · rw [List.append_nil]; exact ih
    · refine List.pairwise_append.mpr ⟨ih, by simp, fun a ha b hb => ?_⟩
      have hb' : b = (x, (n : Int)) := by simpa using hb
      subst hb'
      obtain ⟨h1, h2, h3, _⟩ := mem_colTo.mp ha
      exact .inr ⟨h1, h3⟩
theorem openTo_rising (g : List Cell) (h : Int) (n : Nat) : (openTo g h n).Pairwise ltC := by
  induction n with
  | zero => simp [openTo]
  | succ n ih =>
    rw [openTo_succ]
    refine List.pairwise_append.mpr ⟨ih, colTo_rising _ _ _, fun a ha b hb => ?_⟩
    obtain ⟨h1, h2, _⟩ := mem_openTo.mp ha
    obtain ⟨h3, _⟩ := mem_colTo.mp hb
    exact .inl (by omega)
theorem openC_rising (w h : Int) (g : List Cell) : (openC w h g).Pairwise ltC := openTo_rising _ _ _
theorem ltC_le {a b : Cell} (h : ltC a b) : leC a b = true := by
  unfold ltC at h
  simp only [leC, decide_eq_true_eq]
  omega
theorem ltC_ne {a b : Cell} (h : ltC a b) : a ≠ b := by
  rintro rfl
  unfold ltC at h
  omega
theorem openC_nodup (w h : Int) (g : List Cell) : (openC w h g).Nodup := (openC_rising w h g).imp ltC_ne
theorem openC_sorted (w h : Int) (g : List Cell) : (openC w h g).Pairwise (fun a b => leC a b = true) := (openC_rising w h g).imp ltC_le
theorem openC_length {w h : Int} (sd : Sides w h) (g : List Cell) : (openC w h g).length ≤ 256 := by
  unfold openC
  refine Nat.le_trans (openTo_length g h w.toNat) ?_
  obtain ⟨s1, s2, s3, s4⟩ := sd
  exact Nat.le_trans (Nat.mul_le_mul (show w.toNat ≤ 16 by omega) (show h.toNat ≤ 16 by omega)) (by decide)
end CF

set_option Elab.async false
set_option linter.all false
set_option maxRecDepth 100000
set_option maxHeartbeats 4000000
/-! CFBoard: the class Board. -/
namespace CF
open PySem PySem.Spec PyProof.Rows L2
def top (i : Nat) : Stmt := PySem.Challenge.pw_cornerfill_k01_boards_told.main.body.getD i (.Pass ⟨0, 0, 0, 0⟩)
/-- what the walk asks of the class -/
structure BTx (K : PySem.W.Frag) (mg : Str → Option Value) (C : Addr) : Prop where
  cl : Cls K C
  nW : NoAttr K C "wide"
  nH : NoAttr K C "high"
  nM : NoAttr K C "missing"
  gMOST : ∃ t, mg "MOST" = some (.int 16 t)
theorem btx_mk {K : PySem.W.Frag} {h : Heap} {mg : Str → Option Value} {C : Addr} {t : Tok} (X : K.In h) (G : h.Ns mainGlobals mg) (pg : PySem.W.plainGet K C Str.empty = true) (hd : PySem.W.hasDictIn K C = true) (po : PySem.W.plainOver K C = true)
    (sa : PySem.W.findIn K (.ref C) "__setattr__" = some (some (.builtin "object.__setattr__"))) (nW : PySem.W.findIn K (.ref C) "wide" = some none) (nH : PySem.W.findIn K (.ref C) "high" = some none) (nM : PySem.W.findIn K (.ref C) "missing" = some none)
    (aM : PySem.W.nsIn K mainGlobals "MOST" = some (some (.int 16 t))) : BTx K mg C := ⟨⟨pg, hd, po, sa⟩, nW, nH, nM, ⟨t, PySem.W.mg_of X G aM⟩⟩
def spInit (C : Addr) : Sp := fun vs H Q _ => ∃ (p dx ga : Addr) (w h : Int) (g : List Cell), vs = [.ref p, .int w, .int h, .ref ga] ∧ H p = some (.ins C dx []) ∧ LsA CellV H ga g ∧ Sides w h ∧ g.Nodup ∧ InB w h g ∧
  ∀ H' : Hp, BoardAt C H' p w h g → But p H H' → Q .non H'
def spWidth (C : Addr) : Sp := fun vs H Q _ => ∃ (p : Addr) (w h : Int) (g : List Cell), vs = [.ref p] ∧ BoardAt C H p w h g ∧ Q (.int w) H
def spHeight (C : Addr) : Sp := fun vs H Q _ => ∃ (p : Addr) (w h : Int) (g : List Cell), vs = [.ref p] ∧ BoardAt C H p w h g ∧ Q (.int h) H
/-- a new list at q -/
def NewL {α : Type} (R : Hp → V → α → Prop) (H H' : Hp) (q : Addr) (l : List α) : Prop := Same H H' ∧ H q = none ∧ LsA R H' q l
def spGaps (C : Addr) : Sp := fun vs H Q _ => ∃ (p : Addr) (w h : Int) (g : List Cell), vs = [.ref p] ∧ BoardAt C H p w h g ∧ ∀ H' q, NewL CellV H H' q (sortC g) → Q (.ref q) H'
def spOpen (C : Addr) : Sp := fun vs H Q _ => ∃ (p : Addr) (w h : Int) (g : List Cell), vs = [.ref p] ∧ BoardAt C H p w h g ∧ ∀ H' q, NewL CellV H H' q (openC w h g) → Q (.ref q) H'
section
variable {P : Program} {w : World} {K : PySem.W.Frag} {mg : Str → Option Value} {base : Heap} {C : Addr}
abbrev s_B_init : Stmt := inClass (top 6) 0
abbrev n_B_init : List Str := ["self", "width", "height", "gaps", "x", "y"]
abbrev p_B_init : List Str := ["self", "width", "height", "gaps"]
theorem sc_B_init : FnScope n_B_init p_B_init (defScope s_B_init) := ⟨rfl, rfl, rfl, by decide +kernel, rfl, by decide +kernel, by decide +kernel⟩

abbrev s_B_width : Stmt := inClass (top 6) 1
abbrev n_B_width : List Str := ["self"]
abbrev p_B_width : List Str := ["self"]
theorem sc_B_width : FnScope n_B_width p_B_width (defScope s_B_width) := ⟨rfl, rfl, rfl, by decide +kernel, rfl, by decide +kernel, by decide +kernel⟩

abbrev s_B_height : Stmt := inClass (top 6) 2
abbrev n_B_height : List Str := ["self"]
abbrev p_B_height : List Str := ["self"]
theorem sc_B_height : FnScope n_B_height p_B_height (defScope s_B_height) := ⟨rfl, rfl, rfl, by decide +kernel, rfl, by decide +kernel, by decide +kernel⟩

abbrev s_B_gaps : Stmt := inClass (top 6) 3
abbrev n_B_gaps : List Str := ["self"]
abbrev p_B_gaps : List Str := ["self"]
theorem sc_B_gaps : FnScope n_B_gaps p_B_gaps (defScope s_B_gaps) := ⟨rfl, rfl, rfl, by decide +kernel, rfl, by decide +kernel, by decide +kernel⟩

abbrev s_B_open_cells : Stmt := inClass (top 6) 4
abbrev n_B_open_cells : List Str := ["self", "found", "x", "y"]
abbrev p_B_open_cells : List Str := ["self"]
theorem sc_B_open_cells : FnScope n_B_open_cells p_B_open_cells (defScope s_B_open_cells) := ⟨rfl, rfl, rfl, by decide +kernel, rfl, by decide +kernel, by decide +kernel⟩

theorem ok_init (T : BTx K mg C) (f : Addr) (fd : FuncData) (F : Fun K "__init__" "Board.__init__" s_B_init f fd) : FnOk P w K mg base CX0 1 f fd p_B_init (spInit C) := by
  refine F.ok sc_B_init (fun vs H Q E h => ?_) (fun cdv A outer s H vs Q E hr h => ?_)
  · obtain ⟨p, dx, ga, w, h, g, rfl, _⟩ := h
    rfl
  · obtain ⟨p, dx, ga, w, h, g, rfl, hp, hg, sd, nd, ib, k⟩ := h
    have hu := hu_of hr
    obtain ⟨s1, s2, s3, s4⟩ := sd
    refine ⟨_,
      (pss_cons (ps_if (PW.pt (pw_or (pt_cmpR op_lt (pv 1) pe_int (nomark _)) (pw_or (pt_cmpR op_gt (pv 1) (pe_gint T.gMOST) (nomark _)) (pw_or (pt_cmpR op_lt (pv 2) pe_int (nomark _)) (pw_or1 (pt_cmpR op_gt (pv 2) (pe_gint T.gMOST) (nomark _)))))))
        (pss_one ps_never)
        pss_nil)
      (pss_cons (ps_fld (pv 0) (pv 1) (by rfl))
      (pss_cons (ps_fld (pv 0) (pv 2) (by rfl))
      (pss_cons (ps_fld (pv 0) pe_dnewT (by rfl))
      (pss_one (ps_for PassesOwn.never (by rfl) (pi_listK K (by rfl) (pv 3)) (pg_tupK K 2 (by rfl) (by rfl) (pgs_cons (pg_name (i := 4) sc_B_init.nd rfl (by first | exact Or.inl rfl | exact Or.inr rfl)) (pgs_cons (pg_name (i := 5) sc_B_init.nd rfl (by first | exact Or.inl rfl | exact Or.inr rfl)) pgs_nil)) (by rfl) (by rfl))
        (pss_cons (ps_if (PW.pt (pw_or (pt_cmpR op_lt (pv 4) pe_int (nomark _)) (pw_or (pt_cmpR op_ge (pv 4) (pv 1) (nomark _)) (pw_or (pt_cmpR op_lt (pv 5) pe_int (nomark _)) (pw_or (pt_cmpR op_ge (pv 5) (pv 2) (nomark _)) (pw_or1 (pt_cmp (pc_din (by exact hu) (pe_tup (pa_cons (pv 4) (pa_cons (pv 5) pa_nil))) (pe_fldK K (by rfl) (pv 0) (by rfl))))))))))
           (pss_one ps_never)
           pss_nil)
         (pss_one (ps_dput (by exact hu) (pe_fldK K (by rfl) (pv 0) (by rfl)) (pe_tup (pa_cons (pv 4) (pa_cons (pv 5) pa_nil))) pe_bl rfl))))))))), ?_⟩
    refine ⟨_, rfl, _, _, rfl, rfl, _, rfl, ?_⟩
    refine iteN (by omega) ?_
    refine ⟨_, rfl, _, _, rfl, rfl, _, rfl, ?_⟩
    refine iteN (by omega) ?_
    refine ⟨_, rfl, _, _, rfl, rfl, _, rfl, ?_⟩
    refine iteN (by omega) ?_
    refine ⟨_, rfl, _, _, rfl, rfl, _, rfl, ?_⟩
    refine iteN (by omega) ?_
    have l1 := putF_len "wide" (.int w) []
    have l2 := putF_len "high" (.int h) (putF "wide" (.int w) [])
    have l3 := putF_len "missing" .non (putF "high" (.int h) (putF "wide" (.int w) []))
    have z0 : ([] : List (Str × V)).length = 0 := rfl
    refine ⟨_, rfl, _, rfl, p, C, dx, [], rfl, hp, T.cl, T.nW, (by omega), ?_⟩
    refine ⟨_, rfl, _, rfl, p, C, dx, _, rfl, upd_same, T.cl, T.nH, (by omega), ?_⟩
    intro d hd
    have npd : p ≠ d := ne_of_none (H := upd (upd H p _) p _) upd_same hd
    have hd0 : H d = none := by rw [upd_ne npd.symm, upd_ne npd.symm] at hd; exact hd
    refine ⟨_, rfl, p, C, dx, _, rfl, (by rw [upd_ne npd]; exact upd_same), T.cl, T.nM, (by omega), ?_⟩
    obtain ⟨vs, hga, pg⟩ := hg
    have npg : ga ≠ p := ne_of hga hp (by intro z; cases z)
    have ndg : ga ≠ d := ne_of_none hga hd0
    refine ⟨_, rfl, ga, rfl, ⟨vs, SqL.of (by rw [upd_ne npg, upd_ne ndg, upd_ne npg, upd_ne npg]; exact hga)⟩,
      for_list (K := K) (a := ga) (xs := vs) (fun i σ H2 => ∃ v4 v5 : Option V, σ = [some (.ref p), some (.int w), some (.int h), some (.ref ga), v4, v5] ∧ H2 p = some (.ins C dx (bF w h d)) ∧ H2 d = some (.dT ((g.take i).map gE)) ∧ But p H H2) ?_ ?_ ?_ ?_⟩
    · refine ⟨none, none, rfl, upd_same, by rw [upd_ne npd.symm, upd_same]; rfl, fun b o hb e => ?_⟩
      rw [upd_ne hb, upd_ne (ne_of_none e hd0), upd_ne hb, upd_ne hb]
      exact e
    · rintro i σ H2 _ ⟨v4, v5, _, _, _, kb⟩
      exact SqL.of (kb _ _ npg hga)
    · rintro i y σ H2 hi ⟨v4, v5, rfl, hp2, hd2, kb⟩
      obtain ⟨c, hc, t, rfl, ht⟩ := getE pg hi
      have npt : t ≠ p := ne_of ht hp (by intro z; cases z)
      have ht2 := kb _ _ npt ht
      have hcm : c ∈ g := List.mem_of_getElem? hc
      obtain ⟨b1, b2, b3, b4⟩ := ib c hcm
      have hlt := (List.getElem?_eq_some_iff.mp hc).1
      have etk : g.take (i + 1) = g.take i ++ [c] := by rw [List.take_add_one, hc]; rfl
      have hnot : c ∉ g.take i := by
        have h1 : (g.take (i + 1)).Nodup := nd.sublist (List.take_sublist _ _)
        rw [etk] at h1
        exact fun hm => (List.nodup_append.mp h1).2.2 c hm c (by simp) rfl
      refine ⟨t, _, rfl, SqT.of ht2, rfl, _, _, rfl, _, _, rfl, rfl, ?_⟩
      refine ⟨_, rfl, _, _, rfl, rfl, _, rfl, ?_⟩
      refine iteN (by omega) ?_
      refine ⟨_, rfl, _, rfl, _, _, rfl, rfl, _, rfl, ?_⟩
      refine iteN (by omega) ?_
      refine ⟨_, rfl, _, _, rfl, rfl, _, rfl, ?_⟩
      refine iteN (by omega) ?_
      refine ⟨_, rfl, _, rfl, _, _, rfl, rfl, _, rfl, ?_⟩
      refine iteN (by omega) ?_
      refine ⟨_, rfl, _, rfl, (by show 2 ≤ sizeLine; decide), fun q hq => ?_⟩
      have npq : p ≠ q := ne_of_none hp2 hq
      have ndq : d ≠ q := ne_of_none hd2 hq
      refine ⟨_, rfl, p, C, dx, _, _, rfl, (by rw [upd_ne npq]; exact hp2), T.cl, T.nM, bF_missing w h d, d, _, rfl, DGet.t (k := ck c) (by rw [upd_ne ndq]; exact hd2) upd_same, _, rfl, ?_⟩
      rw [valV_gE_some]
      refine iteN hnot ?_
      refine ⟨_, rfl, p, C, dx, _, _, rfl, (by rw [upd_ne npq]; exact hp2), T.cl, T.nM, bF_missing w h d, _, rfl, _, rfl, (by show 2 ≤ sizeLine; decide), fun q2 hq2 => ?_⟩
      have npq2 : p ≠ q2 := ne_of_none (H := upd H2 q _) (by rw [upd_ne npq]; exact hp2) hq2
      have ndq2 : d ≠ q2 := ne_of_none (H := upd H2 q _) (by rw [upd_ne ndq]; exact hd2) hq2
      have hlen : ((g.take i).map gE).length ≤ 256 := by
        have := inb_length ⟨s1, s2, s3, s4⟩ nd ib
        rw [List.length_map, List.length_take]
        omega
      refine ⟨d, _, rfl, DPut.t (k := ck c) (by rw [upd_ne ndq2, upd_ne ndq]; exact hd2) upd_same (Nat.lt_of_le_of_lt hlen (by decide)), ?_⟩
      refine ⟨_, _, rfl, (by rw [upd_ne npd, upd_ne npq2, upd_ne npq]; exact hp2), (by rw [upd_same, putK_gE hnot, etk]), fun b o hb e => ?_⟩
      have h1 := kb b o hb e
      have hbd : b ≠ d := ne_of_none e hd0
      have h2 : upd H2 q (.tup [.int c.1, .int c.2]) b = some o := by rw [upd_ne (ne_of_none h1 hq)]; exact h1
      rw [upd_ne hbd, upd_ne (ne_of_none h2 hq2)]
      exact h2
    · rintro σ H2 ⟨v4, v5, rfl, hp2, hd2, kb⟩
      have e : g.take vs.length = g := List.take_of_length_le (by rw [Paired.length pg]; exact Nat.le_refl _)
      rw [e] at hd2
      exact k H2 ⟨⟨dx, d, hp2, hd2⟩, ⟨s1, s2, s3, s4⟩, nd, ib⟩ kb
theorem ok_width (T : BTx K mg C) (f : Addr) (fd : FuncData) (F : Fun K "width" "Board.width" s_B_width f fd) : FnOk P w K mg base CX0 1 f fd p_B_width (spWidth C) := by
  refine F.ok sc_B_width (fun vs H Q E h => ?_) (fun cdv A outer s H vs Q E hr h => ?_)
  · obtain ⟨p, w, h, g, rfl, _⟩ := h
    rfl
  · obtain ⟨p, w, h, g, rfl, b, k⟩ := h
    obtain ⟨dx, d, h1, h2⟩ := b.ob
    refine ⟨_,
      (pss_one (ps_ret (pe_fldK K (by rfl) (pv 0) (by rfl)))), ?_⟩
    exact ⟨_, rfl, p, C, dx, _, _, rfl, h1, T.cl, T.nW, bF_wide w h d, k⟩
theorem ok_height (T : BTx K mg C) (f : Addr) (fd : FuncData) (F : Fun K "height" "Board.height" s_B_height f fd) : FnOk P w K mg base CX0 1 f fd p_B_height (spHeight C) := by
  refine F.ok sc_B_height (fun vs H Q E h => ?_) (fun cdv A outer s H vs Q E hr h => ?_)
  · obtain ⟨p, w, h, g, rfl, _⟩ := h
    rfl
  · obtain ⟨p, w, h, g, rfl, b, k⟩ := h
    obtain ⟨dx, d, h1, h2⟩ := b.ob
    refine ⟨_,
      (pss_one (ps_ret (pe_fldK K (by rfl) (pv 0) (by rfl)))), ?_⟩
    exact ⟨_, rfl, p, C, dx, _, _, rfl, h1, T.cl, T.nH, bF_high w h d, k⟩
theorem keys_cells {H : Hp} : ∀ {g : List Cell} {bs : List Addr}, IsKeys H (g.map gE) bs → Paired (CellV H) (bs.map V.ref) g := by
  intro g
  induction g with
  | nil =>
    intro bs h
    cases h
    exact .nil
  | cons c g ih =>
    intro bs h
    cases h with
    | cons h1 h2 => exact .cons ⟨_, rfl, h1⟩ (ih h2)
theorem ok_gaps (T : BTx K mg C) (B : Bl mg) (f : Addr) (fd : FuncData) (F : Fun K "gaps" "Board.gaps" s_B_gaps f fd) : FnOk P w K mg base CX0 1 f fd p_B_gaps (spGaps C) := by
  refine F.ok sc_B_gaps (fun vs H Q E h => ?_) (fun cdv A outer s H vs Q E hr h => ?_)
  · obtain ⟨p, w, h, g, rfl, _⟩ := h
    rfl
  · obtain ⟨p, w, h, g, rfl, b, k⟩ := h
    obtain ⟨dx, d, h1, h2⟩ := b.ob
    refine ⟨_,
      (pss_one (ps_ret (pe_callB (cr_sortK K rep_cell ge_cell se_cell (by decide) (by rfl) (by exact hr.units)) (by rfl) B.sorted bt_sorted (pa_cons (pe_callTy (call_list_dT (by rfl)) (by rfl) B.list bt_list (pa_cons (pe_fldK K (by rfl) (pv 0) (by rfl)) pa_nil)) pa_nil)))), ?_⟩
    refine ⟨_, rfl, p, C, dx, _, _, rfl, h1, T.cl, T.nM, bF_missing w h d, d, _, rfl, .inl h2, fun q bs hq hb => ?_⟩
    have hb' := keys_cells hb
    have t1 : TP H (upd H q (.lst (bs.map V.ref))) := TP.new hq
    refine ⟨q, _, g, rfl, SqL.of upd_same, pair_mono rep_cell t1 hb', fun ys r hr2 hy => ?_⟩
    have s1 : Same H (upd H q (.lst (bs.map V.ref))) := sameNew hq
    refine k _ _ ⟨s1.trans (sameNew hr2), s1.free hr2, ys, upd_same, pair_mono rep_cell (TP.new hr2) hy⟩
theorem ok_open (T : BTx K mg C) (B : Bl mg) (f : Addr) (fd : FuncData) (F : Fun K "open_cells" "Board.open_cells" s_B_open_cells f fd) : FnOk P w K mg base CX0 1 f fd p_B_open_cells (spOpen C) := by
  refine F.ok sc_B_open_cells (fun vs H Q E h => ?_) (fun cdv A outer s H vs Q E hr h => ?_)
  · obtain ⟨p, w, h, g, rfl, _⟩ := h
    rfl
  · obtain ⟨p, w, h, g, rfl, b, k⟩ := h
    obtain ⟨dx, d, h1, h2⟩ := b.ob
    obtain ⟨s1, s2, s3, s4⟩ := b.sd
    have hu := hu_of hr
    refine ⟨_,
      (pss_cons (ps_set (i := 1) sc_B_open_cells.nd rfl (by first | exact Or.inl rfl | exact Or.inr rfl) (pe_lst pa_nil))
      (pss_cons (ps_for PassesOwn.never (by rfl) (pi_range1 (by rfl) B.range (pa_cons (pe_fldK K (by rfl) (pv 0) (by rfl)) pa_nil)) (pg_name (i := 2) sc_B_open_cells.nd rfl (by first | exact Or.inl rfl | exact Or.inr rfl))
        (pss_one (ps_expr (pe_bmK K (by rfl) PySem.F.plainAttrs_list PySem.F.slot_list_extend PySem.F.type_list_extend mt_extend (pv 1) (pa_cons (pe_lc (own := [("y", 3)]) (by rfl) sc_B_open_cells.nd  (pi_range1 (by rfl) B.range (pa_cons (pe_fldK K (by rfl) (pv 0) (by rfl)) pa_nil)) (blkOk_by (own := [("y", 3)]) (N := n_B_open_cells) (sc := defScope s_B_open_cells) (by decide +kernel)) (fun _ _ _ _ _ => (pg_name (i := 3) sc_B_open_cells.nd rfl (by first | exact Or.inl rfl | exact Or.inr rfl))) (fun _ _ _ _ _ => pts_one (by exact (pt_cmp (pc_dnotin (by exact hu) (pe_tup (pa_cons (pv 2) (pa_cons (pv 3) pa_nil))) (pe_fldK K (by rfl) (pv 0) (by rfl)))))) (fun _ _ _ _ _ => by exact (pe_tup (pa_cons (pv 2) (pa_cons (pv 3) pa_nil))))) pa_nil)))))
      (pss_one (ps_ret (pv 1))))), ?_⟩
    refine ⟨(by show 0 ≤ sizeLine; decide), fun l hl => ?_⟩
    have npl : p ≠ l := ne_of_none h1 hl
    have ndl : d ≠ l := ne_of_none h2 hl
    refine ⟨_, rfl, p, C, dx, _, _, rfl, (by rw [upd_ne npl]; exact h1), T.cl, T.nW, bF_wide w h d, w, rfl, by omega, by omega,
      for_range (lo := 0) (n := w.toNat) (fun i σ H2 => ∃ v2 : Option V, σ = [some (.ref p), some (.ref l), v2, none] ∧ Same H H2 ∧ LsA CellV H2 l (openTo g h i)) ?_ ?_ ?_⟩
    · exact ⟨none, rfl, sameNew hl, [], upd_same, .nil⟩
    · rintro i σ H2 hi ⟨v2, rfl, sm, vs, hl2, pv2⟩
      rw [Int.zero_add]
      refine ⟨_, rfl, .inl ⟨rfl, _, SqL.of hl2⟩, _, rfl, p, C, dx, _, _, rfl, sm _ _ h1, T.cl, T.nH, bF_high w h d, h, rfl, by omega, by omega, fun D hD => ?_⟩
      have nlD : l ≠ D := ne_of_none hl2 hD
      refine lc_range (lo := 0) (n := h.toNat) (fun j H3 => Same H H3 ∧ TP H2 H3 ∧ H3 l = some (.lst vs) ∧ LsA CellV H3 D (colTo g (i : Int) j)) ?_ ?_ ?_
      · exact ⟨sm.trans (sameNew hD), TP.new hD, by rw [upd_ne nlD]; exact hl2, [], upd_same, .nil⟩
      · rintro j H3 hj ⟨sm3, t3, hl3, acc, hD3, pa⟩
        rw [Int.zero_add]
        refine ⟨rfl, _, rfl, _, rfl, (by show 2 ≤ sizeLine; decide), fun q hq => ?_⟩
        have s4 : Same H3 (upd H3 q (.tup [.int (i : Int), .int (j : Int)])) := sameNew hq
        refine ⟨_, rfl, p, C, dx, _, _, rfl, s4 _ _ (sm3 _ _ h1), T.cl, T.nM, bF_missing w h d, d, _, rfl, DGet.t (k := ck ((i : Int), (j : Int))) (s4 _ _ (sm3 _ _ h2)) upd_same, _, rfl, ?_⟩
        rw [valV_gE_some]
        have hlen := colTo_length g (i : Int) j
        have haccl := Paired.length pa
        have hcs := colTo_succ g (i : Int) j
        refine iteB (fun e => ?_) (fun e => ?_)
        · have hn : ((i : Int), (j : Int)) ∉ g := by simpa using e
          rw [if_neg hn] at hcs
          refine ⟨_, rfl, _, rfl, (by show 2 ≤ sizeLine; decide), fun q2 hq2 => ?_⟩
          have s5 := s4.trans (sameNew (o := .tup [.int (i : Int), .int (j : Int)]) hq2)
          have hD5 := s5 _ _ hD3
          refine ⟨acc, hD5, Nat.lt_of_le_of_lt (show acc.length ≤ 16 by omega) (by decide), sameMut (sm3.trans s5) (sm.free hD), (t3.trans (TP.of s5)).trans (TP.lst hD5), (by rw [upd_ne nlD]; exact s5 _ _ hl3), ?_⟩
          rw [hcs]
          exact push_ls rep_cell hD5 (pair_mono rep_cell (TP.of s5) pa) ⟨q2, rfl, upd_same⟩
        · have hm : ((i : Int), (j : Int)) ∈ g := by simpa using e
          rw [if_pos hm, List.append_nil] at hcs
          refine ⟨sm3.trans s4, t3.trans (TP.of s4), s4 _ _ hl3, acc, s4 _ _ hD3, ?_⟩
          rw [hcs]
          exact pair_mono rep_cell (TP.of s4) pa
      · rintro H3 ⟨sm3, t3, hl3, acc, hD3, pa⟩
        have e1 := openTo_length g h i
        have e2 := colTo_length g (i : Int) h.toNat
        have e3 := Paired.length pa
        have e4 := Paired.length pv2
        have e5 : i * h.toNat ≤ 16 * 16 := Nat.mul_le_mul (by omega) (by omega)
        refine ⟨l, D, vs, acc, rfl, rfl, hl3, hD3, Nat.le_trans (show vs.length + acc.length ≤ 1000 by omega) (by decide), ?_⟩
        refine ⟨_, rfl, sameMut sm3 hl, ?_⟩
        rw [openTo_succ]
        exact ext_ls rep_cell hl3 (pair_mono rep_cell t3 pv2) pa
    · rintro σ H2 ⟨v2, rfl, sm, ls⟩
      exact ⟨_, rfl, k _ _ ⟨sm, hl, ls⟩⟩
end
end CF

set_option Elab.async false
set_option linter.all false
set_option maxRecDepth 100000
set_option maxHeartbeats 4000000
set_option hygiene false
/-! CFHelp: what the laws share. -/
namespace CF
open PySem PySem.Spec PyProof.Rows L2
local macro_rules | `(tactic| walk_at "rd") => `(tactic| repeat (first | refine ⟨_, rfl, ?_⟩ | refine ⟨_, _, rfl, rfl, ?_⟩ | refine ⟨⟨by decide, by decide⟩, ?_⟩ | refine ⟨by show (0 : Int) < _; decide, ?_⟩))
def spCellAt (K : PySem.W.Frag) : Sp := fun vs H Q _ => ∃ (a : Addr) (ns : List Int) (k : Int), vs = [.ref a, .int k] ∧ SqL K H a (ns.map V.int) ∧ 0 ≤ k ∧ ∀ z : Int, Q (.int z) H
def spWhole : Sp := fun vs H Q _ => ∃ i : Int, vs = [.int i] ∧ Q (.bl true) H
def spGapsBy (K : PySem.W.Frag) : Sp := fun vs H Q _ => ∃ (a : Addr) (ns : List Int) (st w h way : Int), vs = [.ref a, .int st, .int w, .int h, .int way] ∧ SqL K H a (ns.map V.int) ∧ 0 ≤ st ∧ 0 ≤ w ∧ w ≤ 16 ∧ 0 ≤ h ∧ h ≤ 16 ∧
  ∀ H' q g, NewL CellV H H' q g → g.Nodup → InB w h g → Q (.ref q) H'
/-- the gaps made so far: i rows, j places of the next -/
structure GI (w : Int) (i j : Nat) (g : List Cell) : Prop where
  nd : g.Nodup
  ib : ∀ c ∈ g, 0 ≤ c.1 ∧ c.1 < w ∧ 0 ≤ c.2 ∧ (c.2 < (i : Int) ∨ (c.2 = (i : Int) ∧ c.1 < (j : Int)))
  len : g.length ≤ i * 16 + j
theorem GI.step {w : Int} {i j : Nat} {g : List Cell} (h : GI w i j g) : GI w i (j + 1) g := ⟨h.nd, fun c hc => by have := h.ib c hc; omega, by have := h.len; omega⟩
theorem GI.add {w : Int} {i j : Nat} {g : List Cell} (h : GI w i j g) (hj : (j : Int) < w) : GI w i (j + 1) (g ++ [((j : Int), (i : Int))]) := by
  refine ⟨List.nodup_append.mpr ⟨h.nd, by simp, fun a ha b hb => ?_⟩, fun c hc => ?_, by have := h.len; simp only [List.length_append, List.length_cons, List.length_nil]; omega⟩
  · have hb' : b = ((j : Int), (i : Int)) := by simpa using hb
    subst hb'
    rintro rfl
    have := h.ib _ ha
    dsimp only at this
    omega
  · rcases List.mem_append.mp hc with hc | hc
    · have := h.ib c hc
      omega
    · have hc' : c = ((j : Int), (i : Int)) := by simpa using hc
      subst hc'
      dsimp only
      omega
theorem GI.row {w : Int} {i : Nat} {g : List Cell} (h : GI w i w.toNat g) (h0 : 0 ≤ w) (h1 : w ≤ 16) : GI w (i + 1) 0 g := ⟨h.nd, fun c hc => by have := h.ib c hc; omega, by have := h.len; omega⟩
section
variable {P : Program} {w : World} {K : PySem.W.Frag} {mg : Str → Option Value} {base : Heap} {C : Addr}

abbrev s_L_cell_at : Stmt := top 8
abbrev n_L_cell_at : List Str := ["script", "k"]
abbrev p_L_cell_at : List Str := ["script", "k"]
theorem sc_L_cell_at : FnScope n_L_cell_at p_L_cell_at (defScope s_L_cell_at) := ⟨rfl, rfl, rfl, by decide +kernel, rfl, by decide +kernel, by decide +kernel⟩

theorem ok_cell_at (B : Bl mg) (f : Addr) (fd : FuncData) (F : Fun K "_law_cell_at" "_law_cell_at" s_L_cell_at f fd) : FnOk P w K mg base CX0 1 f fd p_L_cell_at (spCellAt K) := by
  refine F.ok sc_L_cell_at (fun vs H Q E h => ?_) (fun cdv A outer s H vs Q E hr h => ?_)
  · obtain ⟨a, ns, k, rfl, _⟩ := h
    rfl
  · obtain ⟨a, ns, k, rfl, hs, h0, q⟩ := h
    refine ⟨_,
      (pss_cons (ps_if (pt_cmpR op_lt (pv 1) (pe_callB (cr_len K (by rfl)) (by rfl) B.len bt_len (pa_cons (pv 0) pa_nil)) (nomark _))
        (pss_one (ps_ret (pe_ixLK K (by rfl) (pv 0) (pv 1) (fun _ _ => rfl))))
        pss_nil)
      (pss_one (ps_ret pe_int))), ?_⟩
    refine ⟨_, rfl, _, rfl, a, _, rfl, .inl hs, _, _, rfl, rfl, _, rfl, ?_⟩
    refine iteD (fun hlt => ?_) (fun _ => ?_)
    · obtain ⟨j, rfl⟩ : ∃ j : Nat, k = (j : Int) := ⟨k.toNat, by omega⟩
      have hj : j < ns.length := by rw [List.length_map] at hlt; omega
      exact ⟨_, rfl, _, rfl, a, _, _, _, rfl, rfl, hs, atI_nat (j := j) (v := .int ns[j]) (by rw [List.getElem?_map, List.getElem?_eq_getElem hj]; rfl), q _⟩
    · exact q 0

abbrev s_L_whole : Stmt := top 9
abbrev n_L_whole : List Str := ["found"]
abbrev p_L_whole : List Str := ["found"]
theorem sc_L_whole : FnScope n_L_whole p_L_whole (defScope s_L_whole) := ⟨rfl, rfl, rfl, by decide +kernel, rfl, by decide +kernel, by decide +kernel⟩

theorem ok_whole (B : Bl mg) (f : Addr) (fd : FuncData) (F : Fun K "_law_whole" "_law_whole" s_L_whole f fd) : FnOk P w K mg base CX0 1 f fd p_L_whole spWhole := by
  refine F.ok sc_L_whole (fun vs H Q E h => ?_) (fun cdv A outer s H vs Q E hr h => ?_)
  · obtain ⟨a, rfl, _⟩ := h
    rfl
  · obtain ⟨i, rfl, q⟩ := h
    refine ⟨_,
      (pss_one (ps_ret (pe_and (pe_callB (cr_isi K (by rfl)) (by rfl) B.isinstance bt_isinstance (pa_cons (pv 0) (pa_cons (pe_bltn (v := .ty "int") (by rfl) B.int bt_int rfl) pa_nil))) (pe_one (pe_not (pe_callB (cr_isi K (by rfl)) (by rfl) B.isinstance bt_isinstance (pa_cons (pv 0) (pa_cons (pe_bltn (v := .ty "bool") (by rfl) B.bool bt_bool rfl) pa_nil)))))))), ?_⟩
    refine ⟨_, rfl, _, _, _, _, true, rfl, .ty _, .base (.int _), kit_ty (by decide +kernel), _, rfl, iteT ?_⟩
    exact ⟨_, rfl, _, _, _, _, false, rfl, .ty _, .base (.int _), kit_ty (by decide +kernel), _, rfl, q⟩

abbrev s_L_gaps_by : Stmt := top 10
abbrev n_L_gaps_by : List Str := ["script", "start", "width", "height", "way", "gaps", "y", "digits", "x"]
abbrev p_L_gaps_by : List Str := ["script", "start", "width", "height", "way"]
theorem sc_L_gaps_by : FnScope n_L_gaps_by p_L_gaps_by (defScope s_L_gaps_by) := ⟨rfl, rfl, rfl, by decide +kernel, rfl, by decide +kernel, by decide +kernel⟩

theorem ok_gaps_by (B : Bl mg) (D_L_cell_at : Df P w K mg base "_law_cell_at" 1 p_L_cell_at (spCellAt K)) (f : Addr) (fd : FuncData) (F : Fun K "_law_gaps_by" "_law_gaps_by" s_L_gaps_by f fd) : FnOk P w K mg base CX0 2 f fd p_L_gaps_by (spGapsBy K) := by
  refine F.ok sc_L_gaps_by (fun vs H Q E h => ?_) (fun cdv A outer s H vs Q E hr h => ?_)
  · obtain ⟨a, ns, st, w, h, way, rfl, _⟩ := h
    rfl
  · obtain ⟨a, ns, st, w, h, way, rfl, hs, h0, w0, w1, h1, h2, q⟩ := h
    refine ⟨_,
      (pss_cons (ps_set (i := 5) sc_L_gaps_by.nd rfl (by first | exact Or.inl rfl | exact Or.inr rfl) (pe_lst pa_nil))
      (pss_cons (ps_for PassesOwn.never (by rfl) (pi_range1 (by rfl) B.range (pa_cons (pv 3) pa_nil)) (pg_name (i := 6) sc_L_gaps_by.nd rfl (by first | exact Or.inl rfl | exact Or.inr rfl))
        (pss_cons (ps_set (i := 7) sc_L_gaps_by.nd rfl (by first | exact Or.inl rfl | exact Or.inr rfl) (pe_cl (by exact D_L_cell_at) (by exact hr.mono (by decide)) (pa_cons (pv 0) (pa_cons (pe_op op_add (pv 1) (pv 6)) pa_nil))))
         (pss_cons (ps_cut (ps_if (pt_cmpR op_eq (pe_op op_mod (pe_op op_fdiv (pv 4) pe_int) pe_int) pe_int (nomark _))
           (pss_cons (ps_set (i := 7) sc_L_gaps_by.nd rfl (by first | exact Or.inl rfl | exact Or.inr rfl) (pe_op op_mod (pe_op op_add (pe_op op_add (pv 7) (pe_op op_mul pe_int (pv 6))) pe_int) pe_int))
            (pss_one (ps_set (i := 7) sc_L_gaps_by.nd rfl (by first | exact Or.inl rfl | exact Or.inr rfl) (pe_op op_mul (pe_op op_mod (pe_op op_mul (pv 7) (pv 7)) pe_int) pe_int))))
           pss_nil))
         (pss_one (ps_for PassesOwn.never (by rfl) (pi_range1 (by rfl) B.range (pa_cons (pv 2) pa_nil)) (pg_name (i := 8) sc_L_gaps_by.nd rfl (by first | exact Or.inl rfl | exact Or.inr rfl))
           (pss_cons (ps_cut (ps_if (pt_cmpR op_lt (pe_op op_mod (pv 7) pe_int) (pe_ixLK K (by rfl) (pe_lst (pa_cons pe_int (pa_cons pe_int (pa_cons pe_int (pa_cons pe_int pa_nil))))) (pe_op op_mod (pv 4) pe_int) (fun _ _ => rfl)) (nomark _))
              (pss_one (ps_expr (pe_bmK K (by rfl) PySem.F.plainAttrs_list PySem.F.slot_list_append PySem.F.type_list_append mt_append (pv 5) (pa_cons (pe_tup (pa_cons (pv 8) (pa_cons (pv 6) pa_nil))) pa_nil))))
              pss_nil))
            (pss_one (ps_set (i := 7) sc_L_gaps_by.nd rfl (by first | exact Or.inl rfl | exact Or.inr rfl) (pe_op op_fdiv (pv 7) pe_int)))))))))
      (pss_cons (ps_cut (ps_if (pt_cmpR op_eq (pe_op op_mod (pe_op op_fdiv (pv 4) pe_int) pe_int) pe_int (nomark _))
        (pss_one (ps_expr (pe_bm0K K (by rfl) PySem.F.plainAttrs_list PySem.F.slot_list_reverse PySem.F.type_list_reverse mt_reverse (pv 5))))
        pss_nil))
      (pss_one (ps_ret (pv 5)))))), ?_⟩
    refine ⟨(by show 0 ≤ sizeLine; decide), fun l hl => ?_⟩
    have s0 : Same H (upd H l (.lst [])) := sameNew hl
    refine ⟨_, rfl, h, rfl, by omega, by omega, for_range (lo := 0) (n := h.toNat) (fun i σ H2 => ∃ v6 v7 v8 : Option V, σ = [some (.ref a), some (.int st), some (.int w), some (.int h), some (.int way), some (.ref l), v6, v7, v8] ∧ Same H H2 ∧ ∃ g, LsA CellV H2 l g ∧ GI w i 0 g) ?_ ?_ ?_⟩
    · exact ⟨none, none, none, rfl, s0, [], ⟨[], upd_same, .nil⟩, List.nodup_nil, fun _ hc => (nomatch hc), by simp⟩
    · rintro i σ H2 hi ⟨v6, v7, v8, rfl, sm, g, hg, gi⟩
      rw [Int.zero_add]
      refine ⟨_, rfl, _, rfl, _, rfl, _, _, rfl, rfl, a, ns, _, rfl, sm.seq hs, by omega, fun z => ?_⟩
      -- the digits are any whole number from here on
      refine ⟨fun σ' H' => H' = H2 ∧ ∃ dg : Int, σ' = [some (.ref a), some (.int st), some (.int w), some (.int h), some (.int way), some (.ref l), some (.int (i : Int)), some (.int dg), v8], ?_, ?_⟩
      · walk_at "rd"
        refine ⟨rfl, _, rfl, iteB (fun _ => ?_) (fun _ => ?_)⟩
        · walk_at "rd"
          refine ⟨.inl ⟨by decide, by decide⟩, ?_⟩
          walk_at "rd"
          have m0 := Int.emod_nonneg (z + 7919 * (i : Int) + 101) (by decide : (2147483647 : Int) ≠ 0)
          have m1 := Int.emod_lt_of_pos (z + 7919 * (i : Int) + 101) (by decide : (0 : Int) < 2147483647)
          refine ⟨.inl ⟨by omega, by omega⟩, ?_⟩
          walk_at "rd"
          refine ⟨.inr ⟨by decide, by decide⟩, ?_⟩
          exact ⟨rfl, _, rfl⟩
        · exact ⟨rfl, _, rfl⟩
      · rintro σ' H' ⟨rfl, dg, rfl⟩
        refine ⟨_, rfl, w, rfl, by omega, by omega, for_range (lo := 0) (n := w.toNat) (fun j σ H3 => ∃ (dg : Int) (v8 : Option V), σ = [some (.ref a), some (.int st), some (.int w), some (.int h), some (.int way), some (.ref l), some (.int (i : Int)), some (.int dg), v8] ∧ Same H H3 ∧ ∃ g, LsA CellV H3 l g ∧ GI w i j g) ?_ ?_ ?_⟩
        · exact ⟨dg, _, rfl, sm, g, hg, gi⟩
        · rintro j σ H3 hj ⟨dg, v8, rfl, sm3, g3, ⟨vs, hl3, pv⟩, gi3⟩
          rw [Int.zero_add]
          refine ⟨fun σ' H' => σ' = [some (.ref a), some (.int st), some (.int w), some (.int h), some (.int way), some (.ref l), some (.int (i : Int)), some (.int dg), some (.int (j : Int))] ∧ Same H H' ∧ ∃ g, LsA CellV H' l g ∧ GI w i (j + 1) g, ?_, ?_⟩
          · walk_at "rd"
            refine ⟨(by show 4 ≤ sizeLine; decide), fun m hm => ?_⟩
            walk_at "rd"
            have s4 : Same H3 (upd H3 m (.lst [.int 0, .int 1, .int 2, .int 4])) := sameNew hm
            obtain ⟨k, hk, hk4⟩ : ∃ k : Nat, way % 4 = (k : Int) ∧ k < 4 := ⟨(way % 4).toNat, by omega, by omega⟩
            obtain ⟨u, hu⟩ : ∃ u : Int, ([.int 0, .int 1, .int 2, .int 4] : List V)[k]? = some (.int u) := by
              match k, hk4 with
              | 0, _ => exact ⟨0, rfl⟩
              | 1, _ => exact ⟨1, rfl⟩
              | 2, _ => exact ⟨2, rfl⟩
              | 3, _ => exact ⟨4, rfl⟩
            refine ⟨m, _, _, _, rfl, rfl, SqL.of upd_same, (by rw [hk]; exact atI_nat hu), _, _, rfl, rfl, _, rfl, iteB (fun _ => ?_) (fun _ => ?_)⟩
            · refine ⟨_, rfl, .inl ⟨rfl, _, SqL.of (s4 _ _ hl3)⟩, _, rfl, _, rfl, (by show 2 ≤ sizeLine; decide), fun t ht => ?_⟩
              have s5 : Same H3 _ := s4.trans (sameNew (o := .tup [.int (j : Int), .int (i : Int)]) ht)
              have hlv := Paired.length pv
              have hgl := gi3.len
              have hb : i * 16 ≤ 16 * 16 := Nat.mul_le_mul (by omega) (Nat.le_refl _)
              refine ⟨l, _, _, rfl, rfl, s5 _ _ hl3, Nat.lt_of_le_of_lt (show vs.length ≤ 1000 by omega) (by decide), ?_⟩
              refine ⟨rfl, sameMut (sm3.trans s5) hl, g3 ++ [((j : Int), (i : Int))], ?_, gi3.add (by omega)⟩
              exact push_ls rep_cell (s5 _ _ hl3) (pair_mono rep_cell (TP.of s5) pv) ⟨t, rfl, upd_same⟩
            · exact ⟨rfl, sm3.trans s4, g3, ⟨vs, s4 _ _ hl3, pair_mono rep_cell (TP.of s4) pv⟩, gi3.step⟩
          · rintro σ' H' ⟨rfl, sm4, g4, hg4, gi4⟩
            walk_at "rd"
            exact ⟨_, _, rfl, sm4, g4, hg4, gi4⟩
        · rintro σ H3 ⟨dg, v8, rfl, sm3, g3, hg3, gi3⟩
          exact ⟨_, _, _, rfl, sm3, g3, hg3, gi3.row w0 w1⟩
    · rintro σ H2 ⟨v6, v7, v8, rfl, sm, g, ⟨vs, hl2, pv⟩, gi⟩
      have ibg : InB w h g := fun c hc => by have := gi.ib c hc; omega
      refine ⟨fun σ' H' => ∃ g', σ'[5]? = some (some (.ref l)) ∧ Same H H' ∧ LsA CellV H' l g' ∧ g'.Nodup ∧ InB w h g', ?_, ?_⟩
      · walk_at "rd"
        refine ⟨rfl, _, rfl, iteB (fun _ => ?_) (fun _ => ?_)⟩
        · refine ⟨_, rfl, .inl ⟨rfl, _, SqL.of hl2⟩, l, vs, rfl, rfl, hl2, ?_⟩
          refine ⟨g.reverse, rfl, sameMut sm hl, ⟨vs.reverse, upd_same, pair_rev (pair_mono rep_cell (TP.lst hl2) pv)⟩, nodup_rev gi.nd, fun c hc => ibg c (List.mem_reverse.mp hc)⟩
        · exact ⟨g, rfl, sm, ⟨vs, hl2, pv⟩, gi.nd, ibg⟩
      · rintro σ' H' ⟨g', e5, sm', hg', nd', ib'⟩
        exact ⟨_, e5, q _ _ g' ⟨sm', hl, hg'⟩ nd' ib'⟩

abbrev s_L_open : Stmt := top 11
abbrev n_L_open : List Str := ["width", "height", "gaps", "there", "gap", "k"]
abbrev p_L_open : List Str := ["width", "height", "gaps"]
theorem sc_L_open : FnScope n_L_open p_L_open (defScope s_L_open) := ⟨rfl, rfl, rfl, by decide +kernel, rfl, by decide +kernel, by decide +kernel⟩

def spLawOpen : Sp := fun vs H Q _ => ∃ (ga : Addr) (w h : Int) (g : List Cell), vs = [.int w, .int h, .ref ga] ∧ LsA CellV H ga g ∧ g.length ≤ 100000 ∧ Sides w h ∧ ∀ H' q, NewL CellV H H' q (openC w h g) → Q (.ref q) H'
theorem ok_L_open (B : Bl mg) (f : Addr) (fd : FuncData) (F : Fun K "_law_open" "_law_open" s_L_open f fd) : FnOk P w K mg base CX0 1 f fd p_L_open spLawOpen := by
  refine F.ok sc_L_open (fun vs H Q E h => ?_) (fun cdv A outer s H vs Q E hr h => ?_)
  · obtain ⟨ga, w, h, g, rfl, _⟩ := h
    rfl
  · obtain ⟨ga, w, h, g, rfl, hg, hgl, ⟨s1, s2, s3, s4⟩, q⟩ := h
    have hu := hu_of hr
    refine ⟨_,
      (pss_cons (ps_set (i := 3) sc_L_open.nd rfl (by first | exact Or.inl rfl | exact Or.inr rfl) pe_dnewT)
      (pss_cons (ps_for PassesOwn.never (by rfl) (pi_listK K (by rfl) (pv 2)) (pg_name (i := 4) sc_L_open.nd rfl (by first | exact Or.inl rfl | exact Or.inr rfl))
        (pss_one (ps_dput (by exact hu) (pv 3) (pv 4) pe_bl rfl)))
      (pss_one (ps_ret (pe_lc (own := [("k", 5)]) (by rfl) sc_L_open.nd  (pi_range1 (by rfl) B.range (pa_cons (pe_op op_mul (pv 0) (pv 1)) pa_nil)) (blkOk_by (own := [("k", 5)]) (N := n_L_open) (sc := defScope s_L_open) (by decide +kernel)) (fun _ _ _ _ _ => (pg_name (i := 5) sc_L_open.nd rfl (by first | exact Or.inl rfl | exact Or.inr rfl))) (fun _ _ _ _ _ => pts_one (by exact (pt_cmp (pc_dnotin (by exact hu) (pe_tup (pa_cons (pe_op op_fdiv (pv 5) (pv 1)) (pa_cons (pe_op op_mod (pv 5) (pv 1)) pa_nil))) (pv 3))))) (fun _ _ _ _ _ => by exact (pe_tup (pa_cons (pe_op op_fdiv (pv 5) (pv 1)) (pa_cons (pe_op op_mod (pv 5) (pv 1)) pa_nil))))))))), ?_⟩
    intro d hd
    obtain ⟨gs, hga, pg⟩ := hg
    have sd0 : Same H (upd H d (.dT [])) := sameNew hd
    have hgsl := Paired.length pg
    refine ⟨_, rfl, ga, rfl, ⟨gs, SqL.of (sd0 _ _ hga)⟩, for_list (K := K) (a := ga) (xs := gs) (fun i σ H2 => ∃ v4 : Option V, σ = [some (.int w), some (.int h), some (.ref ga), some (.ref d), v4, none] ∧ Same H H2 ∧ ∃ g' : List Cell, H2 d = some (.dT (g'.map gE)) ∧ (∀ c, c ∈ g' ↔ c ∈ g.take i) ∧ g'.length ≤ i) ?_ ?_ ?_ ?_⟩
    · exact ⟨none, rfl, sd0, [], upd_same, by simp, Nat.zero_le _⟩
    · rintro i σ H2 _ ⟨v4, rfl, sm, _⟩
      exact SqL.of (sm _ _ hga)
    · rintro i y σ H2 hi ⟨v4, rfl, sm, g', hd2, hm, hl⟩
      obtain ⟨c, hc, t, rfl, ht⟩ := getE pg hi
      have hil := (List.getElem?_eq_some_iff.mp hc).1
      have etk : g.take (i + 1) = g.take i ++ [c] := by rw [List.take_add_one, hc]; rfl
      refine ⟨_, rfl, _, rfl, d, _, rfl, DPut.t (k := ck c) hd2 (sm _ _ ht) (Nat.lt_of_le_of_lt (show (g'.map gE).length ≤ 100000 by rw [List.length_map]; omega) (by decide)), ?_⟩
      refine ⟨_, rfl, sameMut sm hd, if c ∈ g' then g' else g' ++ [c], by rw [upd_same, valV_gE_put], fun x => ?_, ?_⟩
      · rw [etk, List.mem_append, ← hm x]
        by_cases h1 : c ∈ g'
        · rw [if_pos h1]
          constructor
          · exact fun z => .inl z
          · rintro (z | z)
            · exact z
            · rw [show x = c by simpa using z]; exact h1
        · rw [if_neg h1, List.mem_append]
      · split
        · omega
        · rw [List.length_append, List.length_singleton]; omega
    · rintro σ H2 ⟨v4, rfl, sm, g', hd2, hm, hl⟩
      obtain ⟨wn, rfl⟩ : ∃ n : Nat, w = (n : Int) := ⟨w.toNat, by omega⟩
      obtain ⟨hn, rfl⟩ : ∃ n : Nat, h = (n : Int) := ⟨h.toNat, by omega⟩
      have hm' : ∀ c, c ∈ g' ↔ c ∈ g := fun c => by rw [hm c, List.take_of_length_le (by omega)]
      have hwh : wn * hn ≤ 16 * 16 := Nat.mul_le_mul (by omega) (by omega)
      have hwi : (wn : Int) * (hn : Int) = ((wn * hn : Nat) : Int) := by rw [Int.natCast_mul]
      refine ⟨_, rfl, _, rfl, _, _, rfl, rfl, .inl ⟨by omega, by omega⟩, ?_⟩
      refine ⟨((wn * hn : Nat) : Int), congrArg (fun z => [V.int z]) hwi, by omega, by omega, fun D hD => ?_⟩
      rw [Int.toNat_natCast]
      have ndD : d ≠ D := ne_of_none hd2 hD
      refine lc_range (lo := 0) (n := wn * hn) (fun j H3 => Same H H3 ∧ H3 d = some (.dT (g'.map gE)) ∧ LsA CellV H3 D (lawTo (hn : Int) g j)) ?_ ?_ ?_
      · exact ⟨sm.trans (sameNew hD), by rw [upd_ne ndD]; exact hd2, [], upd_same, .nil⟩
      · rintro j H3 hj ⟨sm3, hd3, acc, hD3, pa⟩
        rw [Int.zero_add]
        have hp : (0 : Int) < (hn : Int) := by omega
        have hcd : CDiv (j : Int) (hn : Int) := ⟨hp, by omega⟩
        refine ⟨rfl, _, rfl, _, rfl, _, _, rfl, rfl, hcd, _, rfl, _, rfl, _, _, rfl, rfl, hp, (by show 2 ≤ sizeLine; decide), fun t ht => ?_⟩
        have s4 : Same H3 (upd H3 t (.tup [.int ((j : Int) / (hn : Int)), .int ((j : Int) % (hn : Int))])) := sameNew ht
        refine ⟨_, rfl, d, _, rfl, DGet.t (k := ck ((j : Int) / (hn : Int), (j : Int) % (hn : Int))) (s4 _ _ hd3) upd_same, _, rfl, ?_⟩
        rw [valV_gE_some]
        have hls := lawTo_succ (hn : Int) g j
        have hll := lawTo_length (hn : Int) g j
        have hal := Paired.length pa
        refine iteB (fun e => ?_) (fun e => ?_)
        · have hn' : ((j : Int) / (hn : Int), (j : Int) % (hn : Int)) ∉ g := by rw [← hm']; simpa using e
          rw [if_neg hn'] at hls
          refine ⟨_, rfl, _, rfl, _, _, rfl, rfl, hcd, _, rfl, _, rfl, _, _, rfl, rfl, hp, (by show 2 ≤ sizeLine; decide), fun t2 ht2 => ?_⟩
          have s5 := s4.trans (sameNew (o := .tup [.int ((j : Int) / (hn : Int)), .int ((j : Int) % (hn : Int))]) ht2)
          refine ⟨acc, s5 _ _ hD3, Nat.lt_of_le_of_lt (show acc.length ≤ 256 by omega) (by decide), sameMut (sm3.trans s5) (sm.free hD), (by rw [upd_ne ndD]; exact s5 _ _ hd3), ?_⟩
          rw [hls]
          exact push_ls rep_cell (s5 _ _ hD3) (pair_mono rep_cell (TP.of s5) pa) ⟨t2, rfl, upd_same⟩
        · have hn' : ((j : Int) / (hn : Int), (j : Int) % (hn : Int)) ∈ g := by rw [← hm']; simpa using e
          rw [if_pos hn', List.append_nil] at hls
          refine ⟨sm3.trans s4, s4 _ _ hd3, acc, s4 _ _ hD3, ?_⟩
          rw [hls]
          exact pair_mono rep_cell (TP.of s4) pa
      · rintro H3 ⟨sm3, _, hD3⟩
        refine q _ _ ⟨sm3, sm.free hD, ?_⟩
        unfold openC
        rw [Int.toNat_natCast, ← lawTo_open]
        exact hD3

abbrev s_L_is_cell : Stmt := top 12
abbrev n_L_is_cell : List Str := ["cell"]
abbrev p_L_is_cell : List Str := ["cell"]
theorem sc_L_is_cell : FnScope n_L_is_cell p_L_is_cell (defScope s_L_is_cell) := ⟨rfl, rfl, rfl, by decide +kernel, rfl, by decide +kernel, by decide +kernel⟩

def spIsCell : Sp := fun vs H Q _ => ∃ (v : V) (c : Cell), vs = [v] ∧ CellV H v c ∧ Q (.bl true) H
theorem ok_is_cell (B : Bl mg) (D_L_whole : Df P w K mg base "_law_whole" 1 p_L_whole spWhole) (f : Addr) (fd : FuncData) (F : Fun K "_law_is_cell" "_law_is_cell" s_L_is_cell f fd) : FnOk P w K mg base CX0 2 f fd p_L_is_cell spIsCell := by
  refine F.ok sc_L_is_cell (fun vs H Q E h => ?_) (fun cdv A outer s H vs Q E hr h => ?_)
  · obtain ⟨v, c, rfl, _⟩ := h
    rfl
  · obtain ⟨v, c, rfl, ⟨t, rfl, ht⟩, q⟩ := h
    refine ⟨_,
      (pss_one (ps_ret (pe_and (pe_callB (cr_isi K (by rfl)) (by rfl) B.isinstance bt_isinstance (pa_cons (pv 0) (pa_cons (pe_bltn (v := .ty "tuple") (by rfl) B.tuple bt_tuple rfl) pa_nil))) (pe_and (pe_cmpR op_eq (pe_callB (cr_len K (by rfl)) (by rfl) B.len bt_len (pa_cons (pv 0) pa_nil)) pe_int (nomark _)) (pe_and (pe_cl (by exact D_L_whole) (by exact hr.mono (by decide)) (pa_cons (pe_ixTK K (by rfl) (pv 0) pe_int (fun _ _ => rfl)) pa_nil)) (pe_one (pe_cl (by exact D_L_whole) (by exact hr.mono (by decide)) (pa_cons (pe_ixTK K (by rfl) (pv 0) pe_int (fun _ _ => rfl)) pa_nil)))))))), ?_⟩
    refine ⟨_, rfl, _, _, _, _, true, rfl, .ty _, .base (.tup ht), kit_ty (by decide +kernel), _, rfl, iteT ?_⟩
    refine ⟨_, rfl, t, _, rfl, .inr (SqT.of ht), rfl, _, rfl, iteT ?_⟩
    refine ⟨_, rfl, t, _, _, _, rfl, rfl, SqT.of ht, atI_nat (j := 0) rfl, c.1, rfl, _, rfl, iteT ?_⟩
    exact ⟨_, rfl, t, _, _, _, rfl, rfl, SqT.of ht, atI_nat (j := 1) rfl, c.2, rfl, q⟩

abbrev s_L_is_cells : Stmt := top 13
abbrev n_L_is_cells : List Str := ["found", "due", "cell"]
abbrev p_L_is_cells : List Str := ["found", "due"]
theorem sc_L_is_cells : FnScope n_L_is_cells p_L_is_cells (defScope s_L_is_cells) := ⟨rfl, rfl, rfl, by decide +kernel, rfl, by decide +kernel, by decide +kernel⟩

def spIsCells : Sp := fun vs H Q _ => ∃ (a b : Addr) (l m : List Cell), vs = [.ref a, .ref b] ∧ LsA CellV H a l ∧ LsA CellV H b m ∧ Q (.bl (decide (l = m))) H
theorem ok_is_cells (B : Bl mg) (D_L_is_cell : Df P w K mg base "_law_is_cell" 2 p_L_is_cell spIsCell) (f : Addr) (fd : FuncData) (F : Fun K "_law_is_cells" "_law_is_cells" s_L_is_cells f fd) : FnOk P w K mg base CX0 3 f fd p_L_is_cells spIsCells := by
  refine F.ok sc_L_is_cells (fun vs H Q E h => ?_) (fun cdv A outer s H vs Q E hr h => ?_)
  · obtain ⟨a, b, l, m, rfl, _⟩ := h
    rfl
  · obtain ⟨a, b, l, m, rfl, ha, hb, q⟩ := h
    obtain ⟨vs, h1, p1⟩ := id ha
    refine ⟨_,
      (pss_cons (ps_if (pt_not (pt_val (pe_callB (cr_isi K (by rfl)) (by rfl) B.isinstance bt_isinstance (pa_cons (pv 0) (pa_cons (pe_bltn (v := .ty "list") (by rfl) B.list bt_list rfl) pa_nil)))))
        (pss_one (ps_ret pe_bl))
        pss_nil)
      (pss_cons (ps_for PassesOwn.never (by rfl) (pi_listK K (by rfl) (pv 0)) (pg_name (i := 2) sc_L_is_cells.nd rfl (by first | exact Or.inl rfl | exact Or.inr rfl))
        (pss_one (ps_if (pt_not (pt_val (pe_cl (by exact D_L_is_cell) (by exact hr.mono (by decide)) (pa_cons (pv 2) pa_nil))))
           (pss_one (ps_ret pe_bl))
           pss_nil)))
      (pss_one (ps_ret (pe_cmpR (op_eqK K (by rfl) (by exact hr.units)) (pv 0) (pv 1) (nomark _)))))), ?_⟩
    refine ⟨_, rfl, _, _, _, _, true, rfl, .ty _, .base (.lst h1), kit_ty (by decide +kernel), _, rfl, iteF ?_⟩
    refine ⟨_, rfl, a, rfl, ⟨vs, SqL.of h1⟩, for_list (K := K) (a := a) (xs := vs) (fun i σ H2 => ∃ v2 : Option V, σ = [some (.ref a), some (.ref b), v2] ∧ H2 = H) ⟨none, rfl, rfl⟩ ?_ ?_ ?_⟩
    · rintro i σ H2 _ ⟨v2, _, rfl⟩
      exact SqL.of h1
    · rintro i y σ H2 hi ⟨v2, rfl, rfl⟩
      obtain ⟨c, hc, hv⟩ := getE p1 hi
      exact ⟨_, rfl, y, c, rfl, hv, _, rfl, iteF ⟨_, rfl, rfl⟩⟩
    · rintro σ H2 ⟨v2, rfl, rfl⟩
      exact ⟨_, rfl, _, rfl, eq_ls rep_cell ge_cell (by decide) ha hb q⟩

abbrev s_L_drawn : Stmt := top 14
abbrev n_L_drawn : List Str := ["script", "most", "head", "width", "height"]
abbrev p_L_drawn : List Str := ["script", "most"]
theorem sc_L_drawn : FnScope n_L_drawn p_L_drawn (defScope s_L_drawn) := ⟨rfl, rfl, rfl, by decide +kernel, rfl, by decide +kernel, by decide +kernel⟩

def spDrawn (K : PySem.W.Frag) : Sp := fun vs H Q _ => ∃ (a : Addr) (ns : List Int), vs = [.ref a, .int 16] ∧ SqL K H a (ns.map V.int) ∧
  ∀ H' t q w h g, Same H H' → H' t = some (.tup [.int w, .int h, .ref q]) → H q = none → LsA CellV H' q g → Sides w h → g.Nodup → InB w h g → Q (.ref t) H'
theorem ok_drawn (B : Bl mg) (D_L_cell_at : Df P w K mg base "_law_cell_at" 1 p_L_cell_at (spCellAt K)) (D_L_gaps_by : Df P w K mg base "_law_gaps_by" 2 p_L_gaps_by (spGapsBy K)) (f : Addr) (fd : FuncData) (F : Fun K "_law_drawn" "_law_drawn" s_L_drawn f fd) :
    FnOk P w K mg base CX0 3 f fd p_L_drawn (spDrawn K) := by
  refine F.ok sc_L_drawn (fun vs H Q E h => ?_) (fun cdv A outer s H vs Q E hr h => ?_)
  · obtain ⟨a, ns, rfl, _⟩ := h
    rfl
  · obtain ⟨a, ns, rfl, hs, q⟩ := h
    have e6 : (if (16 : Int) < 6 then (16 : Int) else 6) = 6 := by decide
    refine ⟨_,
      (pss_cons (ps_set (i := 2) sc_L_drawn.nd rfl (by first | exact Or.inl rfl | exact Or.inr rfl) (pe_cl (by exact D_L_cell_at) (by exact hr.mono (by decide)) (pa_cons (pv 0) (pa_cons pe_int pa_nil))))
      (pss_cons (ps_set (i := 3) sc_L_drawn.nd rfl (by first | exact Or.inl rfl | exact Or.inr rfl) (pe_op op_add pe_int (pe_op op_mod (pv 2) (pe_callB (call_min2 (by rfl)) (by rfl) B.min bt_min (pa_cons pe_int (pa_cons (pv 1) pa_nil))))))
      (pss_cons (ps_set (i := 4) sc_L_drawn.nd rfl (by first | exact Or.inl rfl | exact Or.inr rfl) (pe_op op_add pe_int (pe_op op_mod (pe_op op_fdiv (pv 2) pe_int) (pe_callB (call_min2 (by rfl)) (by rfl) B.min bt_min (pa_cons pe_int (pa_cons (pv 1) pa_nil))))))
      (pss_cons (ps_cut (ps_if (pt_cmpR op_eq (pe_op op_mod (pe_op op_fdiv (pv 2) pe_int) pe_int) pe_int (nomark _))
        (pss_cons (ps_set (i := 3) sc_L_drawn.nd rfl (by first | exact Or.inl rfl | exact Or.inr rfl) (pe_op op_add pe_int (pe_op op_mod (pe_op op_fdiv (pv 2) pe_int) (pv 1))))
         (pss_one (ps_set (i := 4) sc_L_drawn.nd rfl (by first | exact Or.inl rfl | exact Or.inr rfl) (pe_op op_add pe_int (pe_op op_mod (pe_op op_fdiv (pe_op op_fdiv (pv 2) pe_int) (pv 1)) (pv 1))))))
        pss_nil))
      (pss_one (ps_ret (pe_tup (pa_cons (pv 3) (pa_cons (pv 4) (pa_cons (pe_cl (by exact D_L_gaps_by) (by exact hr.mono (by decide)) (pa_cons (pv 0) (pa_cons pe_int (pa_cons (pv 3) (pa_cons (pv 4) (pa_cons (pe_cl (by exact D_L_cell_at) (by exact hr.mono (by decide)) (pa_cons (pv 0) (pa_cons pe_int pa_nil))) pa_nil)))))) pa_nil)))))))))), ?_⟩
    refine ⟨_, rfl, a, ns, _, rfl, hs, by decide, fun hd => ?_⟩
    refine ⟨_, rfl, _, rfl, _, _, rfl, ?_⟩
    rw [e6]
    walk_at "rd"
    refine ⟨_, _, rfl, ?_⟩
    rw [e6]
    walk_at "rd"
    have a1 := Int.emod_nonneg hd (by decide : (6 : Int) ≠ 0)
    have a2 := Int.emod_lt_of_pos hd (by decide : (0 : Int) < 6)
    have b1 := Int.emod_nonneg (hd / 6) (by decide : (6 : Int) ≠ 0)
    have b2 := Int.emod_lt_of_pos (hd / 6) (by decide : (0 : Int) < 6)
    refine ⟨fun σ' H' => H' = H ∧ ∃ w h : Int, Sides w h ∧ σ' = [some (.ref a), some (.int 16), some (.int hd), some (.int w), some (.int h)], ?_, ?_⟩
    · walk_at "rd"
      refine ⟨rfl, _, rfl, iteB (fun _ => ?_) (fun _ => ?_)⟩
      · walk_at "rd"
        have c1 := Int.emod_nonneg (hd / 144) (by decide : (16 : Int) ≠ 0)
        have c2 := Int.emod_lt_of_pos (hd / 144) (by decide : (0 : Int) < 16)
        have d1 := Int.emod_nonneg (hd / 144 / 16) (by decide : (16 : Int) ≠ 0)
        have d2 := Int.emod_lt_of_pos (hd / 144 / 16) (by decide : (0 : Int) < 16)
        exact ⟨rfl, _, _, ⟨by omega, by omega, by omega, by omega⟩, rfl⟩
      · exact ⟨rfl, _, _, ⟨by omega, by omega, by omega, by omega⟩, rfl⟩
    · rintro σ' H' ⟨rfl, w, h, sd, rfl⟩
      obtain ⟨s1, s2, s3, s4⟩ := id sd
      refine ⟨_, rfl, _, rfl, _, rfl, _, rfl, _, rfl, _, rfl, a, ns, _, rfl, hs, by decide, fun way => ?_⟩
      refine ⟨a, ns, _, _, _, _, rfl, hs, by decide, by omega, s2, by omega, s4, fun H2 l g hn nd ib => ?_⟩
      refine ⟨(by show 3 ≤ sizeLine; decide), fun t ht => ?_⟩
      have st : Same H2 (upd H2 t (.tup [.int w, .int h, .ref l])) := sameNew ht
      exact q _ t l w h g (hn.1.trans st) upd_same hn.2.1 (hn.2.2.keep rep_cell st) sd nd ib

abbrev s_L_same : Stmt := top 15
abbrev n_L_same : List Str := ["board", "width", "height", "gaps", "sides", "cells", "told"]
abbrev p_L_same : List Str := ["board", "width", "height", "gaps"]
theorem sc_L_same : FnScope n_L_same p_L_same (defScope s_L_same) := ⟨rfl, rfl, rfl, by decide +kernel, rfl, by decide +kernel, by decide +kernel⟩

def spSame (C : Addr) : Sp := fun vs H Q _ => ∃ (p ga : Addr) (w h : Int) (g g' : List Cell), vs = [.ref p, .int w, .int h, .ref ga] ∧ BoardAt C H p w h g ∧ LsA CellV H ga g' ∧ g.Perm g' ∧ ∀ H', Same H H' → Q (.bl true) H'
theorem ok_same (B : Bl mg) (BT : BTx K mg C) (D_L_whole : Df P w K mg base "_law_whole" 1 p_L_whole spWhole) (D_L_open : Df P w K mg base "_law_open" 1 p_L_open spLawOpen) (D_L_is_cells : Df P w K mg base "_law_is_cells" 3 p_L_is_cells spIsCells)
    (M_width : Mf P w K mg base C "width" 1 p_B_width (spWidth C)) (M_height : Mf P w K mg base C "height" 1 p_B_height (spHeight C)) (M_gaps : Mf P w K mg base C "gaps" 1 p_B_gaps (spGaps C)) (M_open_cells : Mf P w K mg base C "open_cells" 1 p_B_open_cells (spOpen C))
    (f : Addr) (fd : FuncData) (F : Fun K "_law_same" "_law_same" s_L_same f fd) : FnOk P w K mg base CX0 4 f fd p_L_same (spSame C) := by
  refine F.ok sc_L_same (fun vs H Q E h => ?_) (fun cdv A outer s H vs Q E hr h => ?_)
  · obtain ⟨p, ga, w, h, g, g', rfl, _⟩ := h
    rfl
  · obtain ⟨p, ga, w, h, g, g', rfl, b, hg, hp, q⟩ := h
    obtain ⟨dx, d, h1, h2⟩ := id b.ob
    refine ⟨_,
      (pss_cons (ps_set (i := 4) sc_L_same.nd rfl (by first | exact Or.inl rfl | exact Or.inr rfl) (pe_lst (pa_cons (pe_mth0 (pv 0) BT.cl (by exact M_width) (by exact hr.mono (by decide))) (pa_cons (pe_mth0 (pv 0) BT.cl (by exact M_height) (by exact hr.mono (by decide))) pa_nil))))
      (pss_cons (ps_if (PW.pt (pw_or (pt_not (pt_val (pe_cl (by exact D_L_whole) (by exact hr.mono (by decide)) (pa_cons (pe_ixLK K (by rfl) (pv 4) pe_int (fun _ _ => rfl)) pa_nil)))) (pw_or (pt_not (pt_val (pe_cl (by exact D_L_whole) (by exact hr.mono (by decide)) (pa_cons (pe_ixLK K (by rfl) (pv 4) pe_int (fun _ _ => rfl)) pa_nil)))) (pw_or1 (pt_cmpR (op_neK K (by rfl) (by exact hr.units)) (pv 4) (pe_lst (pa_cons (pv 1) (pa_cons (pv 2) pa_nil))) (nomark _))))))
        (pss_one (ps_ret pe_bl))
        pss_nil)
      (pss_cons (ps_set (i := 5) sc_L_same.nd rfl (by first | exact Or.inl rfl | exact Or.inr rfl) (pe_cl (by exact D_L_open) (by exact hr.mono (by decide)) (pa_cons (pv 1) (pa_cons (pv 2) (pa_cons (pv 3) pa_nil)))))
      (pss_cons (ps_set (i := 6) sc_L_same.nd rfl (by first | exact Or.inl rfl | exact Or.inr rfl) (pe_lst (pa_cons (pe_mth0 (pv 0) BT.cl (by exact M_gaps) (by exact hr.mono (by decide))) (pa_cons (pe_mth0 (pv 0) BT.cl (by exact M_open_cells) (by exact hr.mono (by decide))) pa_nil))))
      (pss_cons (ps_if (PW.pt (pw_or (pt_not (pt_val (pe_cl (by exact D_L_is_cells) (by exact hr.mono (by decide)) (pa_cons (pe_ixLK K (by rfl) (pv 6) pe_int (fun _ _ => rfl)) (pa_cons (pe_callB (cr_sortK K rep_cell ge_cell se_cell (by decide) (by rfl) (by exact hr.units)) (by rfl) B.sorted bt_sorted (pa_cons (pv 3) pa_nil)) pa_nil))))) (pw_or1 (pt_not (pt_val (pe_cl (by exact D_L_is_cells) (by exact hr.mono (by decide)) (pa_cons (pe_ixLK K (by rfl) (pv 6) pe_int (fun _ _ => rfl)) (pa_cons (pv 5) pa_nil))))))))
        (pss_one (ps_ret pe_bl))
        pss_nil)
      (pss_cons (ps_expr (pe_bmK K (by rfl) PySem.F.plainAttrs_list PySem.F.slot_list_append PySem.F.type_list_append mt_append (pe_ixLK K (by rfl) (pv 6) pe_int (fun _ _ => rfl)) (pa_cons (pe_tup (pa_cons pe_int (pa_cons pe_int pa_nil))) pa_nil)))
      (pss_cons (ps_expr (pe_bm0K K (by rfl) PySem.F.plainAttrs_list PySem.F.slot_list_clear PySem.F.type_list_clear mt_clear (pe_ixLK K (by rfl) (pv 6) pe_int (fun _ _ => rfl))))
      (pss_one (ps_ret (pe_and (pe_cmpR (op_eqK K (by rfl) (by exact hr.units)) (pe_mth0 (pv 0) BT.cl (by exact M_gaps) (by exact hr.mono (by decide))) (pe_callB (cr_sortK K rep_cell ge_cell se_cell (by decide) (by rfl) (by exact hr.units)) (by rfl) B.sorted bt_sorted (pa_cons (pv 3) pa_nil)) (nomark _)) (pe_one (pe_cmpR (op_eqK K (by rfl) (by exact hr.units)) (pe_mth0 (pv 0) BT.cl (by exact M_open_cells) (by exact hr.mono (by decide))) (pv 5) (nomark _))))))))))))), ?_⟩
    refine ⟨_, rfl, p, _, _, rfl, h1, bF_width w h d, p, w, h, g, rfl, b, ?_⟩
    refine ⟨_, rfl, p, _, _, rfl, h1, bF_height w h d, p, w, h, g, rfl, b, ?_⟩
    refine ⟨(by show 2 ≤ sizeLine; decide), fun l hl => ?_⟩
    have s0 : Same H (upd H l (.lst [.int w, .int h])) := sameNew hl
    have hl0 : upd H l (.lst [.int w, .int h]) l = some (.lst [.int w, .int h]) := upd_same
    revert s0 hl0
    generalize upd H l (.lst [.int w, .int h]) = H0
    intro s0 hl0
    refine ⟨_, rfl, l, _, _, _, rfl, rfl, SqL.of hl0, atI_nat (j := 0) rfl, w, rfl, _, rfl, iteF ?_⟩
    refine ⟨_, rfl, l, _, _, _, rfl, rfl, SqL.of hl0, atI_nat (j := 1) rfl, h, rfl, _, rfl, iteF ?_⟩
    refine ⟨_, rfl, _, rfl, _, rfl, (by show 2 ≤ sizeLine; decide), fun l2 hl2 => ?_⟩
    have s1 : Same H0 (upd H0 l2 (.lst [.int w, .int h])) := sameNew hl2
    refine ne_ls (α := Int) rep_int ge_int (by decide) (l := [w, h]) (m := [w, h]) ⟨_, s1 _ _ hl0, .cons rfl (.cons rfl .nil)⟩ ⟨_, upd_same, .cons rfl (.cons rfl .nil)⟩ ?_
    refine ⟨_, rfl, ?_⟩
    rw [decide_eq_true (rfl : [w, h] = [w, h])]
    refine iteF ?_
    have s2 := s0.trans s1
    have hgl : g'.length ≤ 256 := by rw [← hp.length_eq]; exact inb_length b.sd b.nd b.inb
    refine ⟨_, rfl, _, rfl, _, rfl, ga, w, h, g', rfl, hg.keep rep_cell s2, by omega, b.sd, fun H2 q0 n0 => ?_⟩
    have s3 := s2.trans n0.1
    have ob3 := s3 _ _ h1
    refine ⟨_, rfl, p, _, _, rfl, ob3, bF_gaps w h d, p, w, h, g, rfl, b.keep s3, fun H3 q1 n1 => ?_⟩
    have s4 := s3.trans n1.1
    have ob4 := s4 _ _ h1
    refine ⟨_, rfl, p, _, _, rfl, ob4, bF_open w h d, p, w, h, g, rfl, b.keep s4, fun H4 q2 n2 => ?_⟩
    have s5 := s4.trans n2.1
    refine ⟨(by show 2 ≤ sizeLine; decide), fun tl htl => ?_⟩
    have s6 : Same H4 (upd H4 tl (.lst [.ref q1, .ref q2])) := sameNew htl
    have htl5 : upd H4 tl (.lst [.ref q1, .ref q2]) tl = some (.lst [.ref q1, .ref q2]) := upd_same
    revert s6 htl5
    generalize upd H4 tl (.lst [.ref q1, .ref q2]) = H5
    intro s6 htl5
    have g1 := (n1.2.2.keep rep_cell n2.1).keep rep_cell s6
    have g2 := n2.2.2.keep rep_cell s6
    have c0 := ((n0.2.2.keep rep_cell n1.1).keep rep_cell n2.1).keep rep_cell s6
    have hga5 := hg.keep rep_cell (s5.trans s6)
    obtain ⟨gv, hgv, pgv⟩ := id hga5
    have ecs : sortC g' = sortC g := (sortC_congr hp).symm
    have eco : openC w h g' = openC w h g := openC_congr (fun c => hp.mem_iff.symm) w h
    rw [eco] at c0
    refine ⟨_, rfl, tl, _, _, _, rfl, rfl, SqL.of htl5, atI_nat (j := 0) rfl, _, rfl, ga, gv, g', rfl, SqL.of hgv, pgv, fun ys r hr5 hys => ?_⟩
    have s7 : Same H5 (upd H5 r (.lst ys)) := sameNew hr5
    refine ⟨q1, r, _, _, rfl, g1.keep rep_cell s7, ⟨ys, upd_same, pair_mono rep_cell (TP.of s7) hys⟩, ?_⟩
    refine ⟨_, rfl, ?_⟩
    rw [decide_eq_true (show sortC g = sortC g' from ecs.symm)]
    refine iteF ?_
    refine ⟨_, rfl, tl, _, _, _, rfl, rfl, SqL.of (s7 _ _ htl5), atI_nat (j := 1) rfl, _, rfl, q2, q0, _, _, rfl, g2.keep rep_cell s7, c0.keep rep_cell s7, ?_⟩
    refine ⟨_, rfl, ?_⟩
    rw [decide_eq_true (rfl : openC w h g = openC w h g)]
    refine iteF ?_
    have s8 := (s5.trans s6).trans s7
    have g1' := g1.keep rep_cell s7
    have g2' := g2.keep rep_cell s7
    have c0' := c0.keep rep_cell s7
    have hg' := hga5.keep rep_cell s7
    have htl6 := s7 _ _ htl5
    revert s8 g1' g2' c0' hg' htl6
    generalize upd H5 r (.lst ys) = H6
    intro s8 g1' g2' c0' hg' htl6
    obtain ⟨v1, hv1, pv1⟩ := id g1'
    have f1 : H q1 = none := s3.free n1.2.1
    have f2 : H q2 = none := s4.free n2.2.1
    have n12 : q1 ≠ q2 := n1.2.2.ne n2.2.1
    have n01 : q0 ≠ q1 := n0.2.2.ne n1.2.1
    have n02 : q0 ≠ q2 := (n0.2.2.keep rep_cell n1.1).ne n2.2.1
    have nt1 : tl ≠ q1 := fun e => by
      obtain ⟨u, hu, _⟩ := n1.2.2.keep rep_cell n2.1
      rw [← e, htl] at hu
      cases hu
    have nt2 : tl ≠ q2 := fun e => by
      obtain ⟨u, hu, _⟩ := n2.2.2
      rw [← e, htl] at hu
      cases hu
    refine ⟨_, rfl, tl, _, _, _, rfl, rfl, SqL.of htl6, atI_nat (j := 0) rfl, .inl ⟨rfl, _, SqL.of hv1⟩, (by show 2 ≤ sizeLine; decide), fun t ht => ?_⟩
    have s9 : Same H6 (upd H6 t (.tup [.int 0, .int 0])) := sameNew ht
    have hv1' := s9 _ _ hv1
    have g2'' := g2'.keep rep_cell s9
    have c0'' := c0'.keep rep_cell s9
    have htl7 := s9 _ _ htl6
    have s10 := s8.trans s9
    have hlv : v1.length ≤ 256 := by
      rw [Paired.length pv1, (sortC_perm g).length_eq]
      exact inb_length b.sd b.nd b.inb
    refine ⟨q1, v1, _, rfl, rfl, hv1', Nat.lt_of_le_of_lt hlv (by decide), ?_⟩
    have s11 := sameMut (o := .lst (v1 ++ [.ref t])) s10 f1
    have g2e := g2''.upd rep_cell n12.symm hv1' (o := .lst (v1 ++ [.ref t]))
    have c0e := c0''.upd rep_cell n01 hv1' (o := .lst (v1 ++ [.ref t]))
    have htl8 : upd (upd H6 t (.tup [.int 0, .int 0])) q1 (.lst (v1 ++ [.ref t])) tl = some (.lst [.ref q1, .ref q2]) := by rw [upd_ne nt1]; exact htl7
    obtain ⟨v2, hv2, pv2⟩ := g2e
    refine ⟨_, rfl, tl, _, _, _, rfl, rfl, SqL.of htl8, atI_nat (j := 1) rfl, .inl ⟨rfl, _, SqL.of hv2⟩, q2, v2, rfl, rfl, hv2, ?_⟩
    have s12 := sameMut (o := .lst []) s11 f2
    have c0f := c0e.upd rep_cell n02 hv2 (o := .lst [])
    revert s12 c0f
    generalize upd (upd (upd H6 t (.tup [.int 0, .int 0])) q1 (.lst (v1 ++ [.ref t]))) q2 (.lst []) = H7
    intro s12 c0f
    refine ⟨_, rfl, p, _, _, rfl, s12 _ _ h1, bF_gaps w h d, p, w, h, g, rfl, b.keep s12, fun H8 r1 m1 => ?_⟩
    have s13 := s12.trans m1.1
    obtain ⟨gv8, hgv8, pgv8⟩ := hg.keep rep_cell s13
    refine ⟨_, rfl, ga, gv8, g', rfl, SqL.of hgv8, pgv8, fun ys2 r2 hr2 hys2 => ?_⟩
    have s14 : Same H8 (upd H8 r2 (.lst ys2)) := sameNew hr2
    refine eq_ls rep_cell ge_cell (by decide) (m1.2.2.keep rep_cell s14) ⟨ys2, upd_same, pair_mono rep_cell (TP.of s14) hys2⟩ ?_
    refine ⟨_, rfl, ?_⟩
    rw [decide_eq_true (show sortC g = sortC g' from ecs.symm)]
    refine iteT ?_
    have s15 := s13.trans s14
    refine ⟨_, rfl, p, _, _, rfl, s15 _ _ h1, bF_open w h d, p, w, h, g, rfl, b.keep s15, fun H9 r3 m3 => ?_⟩
    have c9 := ((c0f.keep rep_cell m1.1).keep rep_cell s14).keep rep_cell m3.1
    refine ⟨_, rfl, eq_ls rep_cell ge_cell (by decide) m3.2.2 c9 ?_⟩
    rw [decide_eq_true (rfl : openC w h g = openC w h g)]
    exact q _ (s15.trans m3.1)

end
end CF

set_option Elab.async false
set_option linter.all false
set_option maxRecDepth 100000
set_option maxHeartbeats 4000000
/-! CFEnd: from what the top left to the bundles, and a law's end. -/
namespace CF
open PySem PySem.Spec PyProof.Rows L2
theorem defIn_mk {K : PySem.W.Frag} {h : Heap} {mg : Str → Option Value} {f : Addr} {x : Str} {st : Stmt} {ps : List Str} {od an : Option Addr} {sl : Array (Option Value)} {oc kV dc pm cd ct : Value} (X : K.In h) (G : h.Ns mainGlobals mg)
    (a : PySem.W.nsIn K mainGlobals x = some (some (.ref f))) (l : K.lookup f = some ⟨oc, od, .func (PySem.W.fnOf x x (defArgs st) (defBody st) (defScope st) .none kV dc pm an cd ct), sl⟩) (c : PySem.W.codeIn K cd x = true) (k : PySem.W.keepIn K (.ref f) = true)
    (hb : ∀ (kV doc pm : Value) (an : Option Addr) (cdv ct : Value) (us : List Value), us.length = ps.length → bindArgs (PySem.W.fnOf x x (defArgs st) (defBody st) (defScope st) .none kV doc pm an cdv ct) ⟨us, []⟩ = pure (ps.zip us)) : DefIn K mg x st ps :=
  ⟨f, _, fun_mk (st := st) l c k, PySem.W.mg_of X G a, (fun_mk (st := st) l c k).binds hb⟩
theorem methIn_mk {K : PySem.W.Frag} {C f : Addr} {x q : Str} {st : Stmt} {ps : List Str} {od an : Option Addr} {sl : Array (Option Value)} {oc kV dc pm cd ct : Value}
    (a : PySem.W.findIn K (.ref C) x = some (some (.ref f))) (i : PySem.W.isFn K (.ref f) = true) (l : K.lookup f = some ⟨oc, od, .func (PySem.W.fnOf x q (defArgs st) (defBody st) (defScope st) .none kV dc pm an cd ct), sl⟩) (c : PySem.W.codeIn K cd q = true) (k : PySem.W.keepIn K (.ref f) = true)
    (hb : ∀ (kV doc pm : Value) (an : Option Addr) (cdv ct : Value) (us : List Value), us.length = ps.length → bindArgs (PySem.W.fnOf x q (defArgs st) (defBody st) (defScope st) .none kV doc pm an cdv ct) ⟨us, []⟩ = pure (ps.zip us)) : MethIn K C x q st ps :=
  ⟨f, _, fun_mk (st := st) l c k, ⟨a, i, k⟩, (fun_mk (st := st) l c k).binds hb⟩
theorem initIn_mk {K : PySem.W.Frag} {h : Heap} {mg : Str → Option Value} {C f : Addr} {x q : Str} {st : Stmt} {ps : List Str} {od an : Option Addr} {sl : Array (Option Value)} {oc kV dc pm cd ct : Value} (X : K.In h) (G : h.Ns mainGlobals mg)
    (aC : PySem.W.nsIn K mainGlobals x = some (some (.ref C))) (mk : PySem.W.makesIn K C = true) (kc : PySem.W.keepIn K (.ref C) = true)
    (a : PySem.W.findIn K (.ref C) "__init__" = some (some (.ref f))) (i : PySem.W.isFn K (.ref f) = true) (l : K.lookup f = some ⟨oc, od, .func (PySem.W.fnOf "__init__" q (defArgs st) (defBody st) (defScope st) .none kV dc pm an cd ct), sl⟩) (c : PySem.W.codeIn K cd q = true) (k : PySem.W.keepIn K (.ref f) = true)
    (hb : ∀ (kV doc pm : Value) (an : Option Addr) (cdv ct : Value) (us : List Value), us.length = ps.length → bindArgs (PySem.W.fnOf "__init__" q (defArgs st) (defBody st) (defScope st) .none kV doc pm an cdv ct) ⟨us, []⟩ = pure (ps.zip us)) : InitIn K mg x C q st ps :=
  ⟨f, _, fun_mk (st := st) l c k, ⟨mk, a, i, kc⟩, PySem.W.mg_of X G aC, (fun_mk (st := st) l c k).binds hb⟩
/-- law itself -/
def LawIn (K : PySem.W.Frag) (mg : Str → Option Value) (st : Stmt) (f : Addr) : Prop := ∃ (od an : Option Addr) (sl : Array (Option Value)) (oc kV dc pm cd ct : Value),
  K.lookup f = some ⟨oc, od, .func (PySem.W.fnOf "law" "law" (defArgs st) (defBody st) (defScope st) .none kV dc pm an cd ct), sl⟩ ∧ PySem.W.codeIn K cd "law" = true ∧ PySem.W.keepIn K (.ref f) = true
theorem lawIn_mk {K : PySem.W.Frag} {h : Heap} {mg : Str → Option Value} {f fa : Addr} {st : Stmt} {od an : Option Addr} {sl : Array (Option Value)} {oc kV dc pm cd ct : Value} (X : K.In h) (G : h.Ns mainGlobals mg) (hfa : mg "law" = some (.ref fa))
    (a : PySem.W.nsIn K mainGlobals "law" = some (some (.ref f))) (l : K.lookup f = some ⟨oc, od, .func (PySem.W.fnOf "law" "law" (defArgs st) (defBody st) (defScope st) .none kV dc pm an cd ct), sl⟩) (c : PySem.W.codeIn K cd "law" = true) (k : PySem.W.keepIn K (.ref f) = true) : LawIn K mg st fa := by
  have e := hfa.symm.trans (PySem.W.mg_of X G a)
  cases e
  exact ⟨od, an, sl, oc, kV, dc, pm, cd, ct, l, c, k⟩
theorem bl_mk {K : PySem.W.Frag} {h : Heap} {mg : Str → Option Value} (X : K.In h) (G : h.Ns mainGlobals mg) (z1 : PySem.W.nsIn K mainGlobals "len" = some none) (z2 : PySem.W.nsIn K mainGlobals "range" = some none) (z3 : PySem.W.nsIn K mainGlobals "sorted" = some none)
    (z4 : PySem.W.nsIn K mainGlobals "list" = some none) (z5 : PySem.W.nsIn K mainGlobals "tuple" = some none) (z6 : PySem.W.nsIn K mainGlobals "isinstance" = some none) (z7 : PySem.W.nsIn K mainGlobals "min" = some none) (z8 : PySem.W.nsIn K mainGlobals "max" = some none)
    (z9 : PySem.W.nsIn K mainGlobals "sum" = some none) (z10 : PySem.W.nsIn K mainGlobals "int" = some none) (z11 : PySem.W.nsIn K mainGlobals "bool" = some none) (z12 : PySem.W.nsIn K mainGlobals "str" = some none) : Bl mg :=
  ⟨PySem.W.mg_none_of X G z1, PySem.W.mg_none_of X G z2, PySem.W.mg_none_of X G z3, PySem.W.mg_none_of X G z4, PySem.W.mg_none_of X G z5, PySem.W.mg_none_of X G z6, PySem.W.mg_none_of X G z7, PySem.W.mg_none_of X G z8, PySem.W.mg_none_of X G z9, PySem.W.mg_none_of X G z10, PySem.W.mg_none_of X G z11, PySem.W.mg_none_of X G z12⟩
/-- law's: a list of at most 63 ints is handed in, True comes out -/
def spLaw (K : PySem.W.Frag) : Sp := fun vs H Q _ => ∃ (a : Addr) (ns : List Int), vs = [.ref a] ∧ SqL K H a (ns.map V.int) ∧ ns.length ≤ 63 ∧ ∀ H', Q (.bl true) H'
theorem law_end {P : Program} {w : World} {K : PySem.W.Frag} {mg : Str → Option Value} {fa : Addr} {st : Stmt} {k : Nat} (L : LawIn K mg st fa)
    (ok : ∀ (base : Heap) (f : Addr) (fd : FuncData), K.In base → base.Ns mainGlobals mg → Fun K "law" "law" st f fd → FnOk P w K mg base CX0 k f fd ["script"] (spLaw K))
    (hb : ∀ (kV doc pm : Value) (an : Option Addr) (cdv ct v : Value), bindArgs (PySem.W.fnOf "law" "law" (defArgs st) (defBody st) (defScope st) .none kV doc pm an cdv ct) ⟨[v], []⟩ = pure ([("script", v)] : List (Str × Value))) :
    ∃ fd : FuncData, (∀ (s : Shared) (v : Value), BindsTo s fd ⟨[v], []⟩ [("script", v)]) ∧ ∀ base : Heap, K.In base → base.Ns mainGlobals mg → FnOk P w K mg base CX0 k fa fd ["script"] (spLaw K) := by
  obtain ⟨od, an, sl, oc, kV, dc, pm, cd, ct, l, c, kp⟩ := L
  exact ⟨_, fun s v => .of_eq (hb _ _ _ _ _ _ _), fun base h1 h2 => ok base _ _ h1 h2 (fun_mk (st := st) l c kp)⟩
theorem walk {l : PySem.W.OpenLaw} {q : Program} {loose : List Str} {XP : (Str → Option Value) → Heap → Prop} {YP : World → Heap → Prop} {d : DefRec} {K : Params → PySem.W.Frag} (k : Nat) (hr : Room k callerA) (hn : l.most = some 63) (hdf : d.params.defaults = [])
    (hY : ∀ (w : World) (h : Heap), YP w h → (K w.params).In h)
    (F : ∀ (w : World) (mg : Str → Option Value) (fa : Addr) (h : Heap), (K w.params).In h → h.Ns mainGlobals mg → mg d.name = some (.ref fa) →
      ∃ fd : FuncData, (∀ (s : Shared) (u : Value), BindsTo s fd ⟨[u], []⟩ [("script", u)]) ∧ ∀ base : Heap, (K w.params).In base → base.Ns mainGlobals mg → FnOk l.prog w (K w.params) mg base CX0 k fa fd ["script"] (spLaw (K w.params))) :
    PySem.W.WalkO q loose XP YP l.row.toRowW d [] (fun f vs => PySem.call f vs) :=
  L2.walk_of (n := 63) (k := k) (x := "script") (CX := fun _ => CX0) (sp := fun w => spLaw (K w.params)) hn (by decide) hdf hr hY F (fun _ _ a ns hl _ hS => ⟨a, ns, rfl, hS, hl, fun _ => rfl⟩) fun _ _ _ _ _ z => z
end CF

set_option Elab.async false
set_option linter.all false
set_option maxRecDepth 100000
set_option maxHeartbeats 4000000
set_option hygiene false
namespace CF
open PySem PySem.Spec PyProof.Rows L2
section
variable {P : Program} {w : World} {K : PySem.W.Frag} {mg : Str → Option Value} {base : Heap} {C : Addr}
abbrev s_law : Stmt := top 16
abbrev n_law : List Str := ["script", "width", "height", "gaps", "handed", "board"]
abbrev p_law : List Str := ["script"]
theorem sc_law : FnScope n_law p_law (defScope s_law) := ⟨rfl, rfl, rfl, by decide +kernel, rfl, by decide +kernel, by decide +kernel⟩

theorem made_same {H H' : Hp} {x dx C : Addr} (nx : H x = none) (nd : H dx = none) (k : But x (upd (upd H dx (.own x)) x (.ins C dx [])) H') : Same H H' := Same.made nx nd fun b o e h => k b o h e
theorem ok_law (B : Bl mg) (BT : BTx K mg C) (D_Board : Bm P w K mg base "Board" C 1 p_B_init (spInit C)) (D_L_drawn : Df P w K mg base "_law_drawn" 3 p_L_drawn (spDrawn K)) (D_L_same : Df P w K mg base "_law_same" 4 p_L_same (spSame C))
    (f : Addr) (fd : FuncData) (F : Fun K "law" "law" s_law f fd) : FnOk P w K mg base CX0 5 f fd ["script"] (spLaw K) := by
  refine F.ok sc_law (fun vs H Q E h => ?_) (fun cdv A outer s H vs Q E hr h => ?_)
  · obtain ⟨a, ns, rfl, _⟩ := h
    rfl
  · obtain ⟨a, ns, rfl, hS, hlen, k⟩ := h
    refine ⟨_,
      (pss_cons (ps_asg (pe_cl (by exact D_L_drawn) (by exact hr.mono (by decide)) (pa_cons (pv 0) (pa_cons pe_int pa_nil))) (pg_tupK K 3 (by rfl) (by rfl) (pgs_cons (pg_name (i := 1) sc_law.nd rfl (by first | exact Or.inl rfl | exact Or.inr rfl)) (pgs_cons (pg_name (i := 2) sc_law.nd rfl (by first | exact Or.inl rfl | exact Or.inr rfl)) (pgs_cons (pg_name (i := 3) sc_law.nd rfl (by first | exact Or.inl rfl | exact Or.inr rfl)) pgs_nil))) (by rfl) (by rfl)))
      (pss_cons (ps_set (i := 4) sc_law.nd rfl (by first | exact Or.inl rfl | exact Or.inr rfl) (pe_callTy (cr_list K (by rfl)) (by rfl) B.list bt_list (pa_cons (pv 3) pa_nil)))
      (pss_cons (ps_set (i := 5) sc_law.nd rfl (by first | exact Or.inl rfl | exact Or.inr rfl) (pe_mk (by exact D_Board) (by exact hr.mono (by decide)) (pa_cons (pv 1) (pa_cons (pv 2) (pa_cons (pv 4) pa_nil)))))
      (pss_cons (ps_if (pt_cmpR (op_neK K (by rfl) (by exact hr.units)) (pv 4) (pv 3) (nomark _))
        (pss_one (ps_ret pe_bl))
        pss_nil)
      (pss_cons (ps_cut (ps_if (pt_cmpR op_gt (pe_callB (cr_len K (by rfl)) (by rfl) B.len bt_len (pa_cons (pv 3) pa_nil)) pe_int (nomark _))
        (pss_one (ps_expr (pe_bm0K K (by rfl) PySem.F.plainAttrs_list PySem.F.slot_list_pop PySem.F.type_list_pop mt_pop (pv 4))))
        (pss_one (ps_expr (pe_bmK K (by rfl) PySem.F.plainAttrs_list PySem.F.slot_list_append PySem.F.type_list_append mt_append (pv 4) (pa_cons (pe_tup (pa_cons pe_int (pa_cons pe_int pa_nil))) pa_nil))))))
      (pss_one (ps_ret (pe_and (pe_cl (by exact D_L_same) (by exact hr.mono (by decide)) (pa_cons (pv 5) (pa_cons (pv 1) (pa_cons (pv 2) (pa_cons (pv 3) pa_nil))))) (pe_one (pe_cl (by exact D_L_same) (by exact hr.mono (by decide)) (pa_cons (pv 5) (pa_cons (pv 1) (pa_cons (pv 2) (pa_cons (pv 3) pa_nil)))))))))))))), ?_⟩
    refine ⟨_, rfl, a, ns, rfl, hS, fun H1 t q w h g s1 ht hq hg sd nd ib => ?_⟩
    refine ⟨t, _, rfl, SqT.of ht, rfl, _, _, rfl, _, _, rfl, _, _, rfl, rfl, ?_⟩
    obtain ⟨gv, hgv, pgv⟩ := id hg
    refine ⟨_, rfl, q, gv, rfl, .inl (SqL.of hgv), fun l hl => ?_⟩
    have s2 : Same H1 (upd H1 l (.lst gv)) := sameNew hl
    have hl2 : LsA CellV (upd H1 l (.lst gv)) l g := ⟨gv, upd_same, pair_mono rep_cell (TP.of s2) pgv⟩
    have hg2 := hg.keep rep_cell s2
    have nql : q ≠ l := hg.ne hl
    revert s2 hl2 hg2
    generalize upd H1 l (.lst gv) = H2
    intro s2 hl2 hg2
    refine ⟨_, rfl, _, rfl, _, rfl, fun x dx nx ndx nex => ?_⟩
    have s3 : Same H2 (upd (upd H2 dx (.own x)) x (.ins C dx [])) := fun b o e => by rw [upd_ne (ne_of_none e nx), upd_ne (ne_of_none e ndx)]; exact e
    refine ⟨x, dx, l, w, h, g, rfl, upd_same, hl2.keep rep_cell s3, sd, nd, ib, fun H3 bd kb => ⟨rfl, ?_⟩⟩
    have s4 : Same H2 H3 := made_same nx ndx kb
    have hl4 := hl2.keep rep_cell s4
    have hg4 := hg2.keep rep_cell s4
    refine ⟨_, rfl, _, rfl, ne_ls rep_cell ge_cell (by decide) hl4 hg4 ?_⟩
    refine ⟨_, rfl, ?_⟩
    rw [decide_eq_true (rfl : g = g)]
    refine iteF ?_
    obtain ⟨gv4, hgv4, pgv4⟩ := id hg4
    obtain ⟨lv, hlv, plv⟩ := id hl4
    have fl : H1 l = none := hl
    have fx : H2 x = none := nx
    have nxl : x ≠ l := fun e => by
      obtain ⟨u, hu, _⟩ := hl2
      rw [e, hu] at fx
      cases fx
    have hlen256 := inb_length sd nd ib
    -- handed is changed; the board stays
    refine ⟨fun σ' H' => σ' = [some (.ref a), some (.int w), some (.int h), some (.ref q), some (.ref l), some (.ref x)] ∧ BoardAt C H' x w h g ∧ LsA CellV H' q g, ?_, ?_⟩
    · refine ⟨_, rfl, q, gv4, rfl, .inl (SqL.of hgv4), _, _, rfl, rfl, _, rfl, iteB (fun e => ?_) (fun e => ?_)⟩
      · have hpos : 0 < lv.length := by
          have h1 : (0 : Int) < (gv4.length : Int) := by simpa using e
          have h2 := Paired.length pgv4
          have h3 := Paired.length plv
          omega
        refine ⟨_, rfl, .inl ⟨rfl, _, SqL.of hlv⟩, l, lv, lv[lv.length - 1], rfl, rfl, hlv, List.getElem?_eq_getElem _, ?_⟩
        refine ⟨rfl, ?_, hg4.upd rep_cell nql hlv⟩
        obtain ⟨ex, d, o1, o2⟩ := bd.ob
        exact ⟨⟨ex, d, by rw [upd_ne nxl]; exact o1, by rw [upd_ne (ne_of o2 hlv (by intro z; cases z))]; exact o2⟩, sd, nd, ib⟩
      · refine ⟨_, rfl, .inl ⟨rfl, _, SqL.of hlv⟩, (by show 2 ≤ sizeLine; decide), fun t2 ht2 => ?_⟩
        have s5 : Same H3 (upd H3 t2 (.tup [.int 0, .int 0])) := sameNew ht2
        have hlv5 := s5 _ _ hlv
        have hlc : lv.length ≤ 256 := by rw [Paired.length plv]; exact hlen256
        refine ⟨l, lv, _, rfl, rfl, hlv5, Nat.lt_of_le_of_lt hlc (by decide), rfl, ?_, (hg4.keep rep_cell s5).upd rep_cell nql hlv5⟩
        obtain ⟨ex, d, o1, o2⟩ := (bd.keep s5).ob
        exact ⟨⟨ex, d, by rw [upd_ne nxl]; exact o1, by rw [upd_ne (ne_of o2 hlv5 (by intro z; cases z))]; exact o2⟩, sd, nd, ib⟩
    · rintro σ' H4 ⟨rfl, bd4, hg5⟩
      refine ⟨_, rfl, _, rfl, _, rfl, _, rfl, x, q, w, h, g, g, rfl, bd4, hg5, List.Perm.refl _, fun H5 s5 => ?_⟩
      refine ⟨_, rfl, iteT ?_⟩
      refine ⟨_, rfl, _, rfl, _, rfl, _, rfl, x, q, w, h, g, g, rfl, bd4.keep s5, hg5.keep rep_cell s5, List.Perm.refl _, fun H6 s6 => ?_⟩
      exact k H6
end
theorem all_mk {w : World} {K : PySem.W.Frag} {mg : Str → Option Value} {fa C : Addr} (L : LawIn K mg s_law fa) (B : Bl mg) (BT : BTx K mg C)
    (I_B_init : InitIn K mg "Board" C "Board.__init__" s_B_init p_B_init)
    (I_B_width : MethIn K C "width" "Board.width" s_B_width p_B_width)
    (I_B_height : MethIn K C "height" "Board.height" s_B_height p_B_height)
    (I_B_gaps : MethIn K C "gaps" "Board.gaps" s_B_gaps p_B_gaps)
    (I_B_open_cells : MethIn K C "open_cells" "Board.open_cells" s_B_open_cells p_B_open_cells)
    (I_L_cell_at : DefIn K mg "_law_cell_at" s_L_cell_at p_L_cell_at)
    (I_L_whole : DefIn K mg "_law_whole" s_L_whole p_L_whole)
    (I_L_gaps_by : DefIn K mg "_law_gaps_by" s_L_gaps_by p_L_gaps_by)
    (I_L_open : DefIn K mg "_law_open" s_L_open p_L_open)
    (I_L_is_cell : DefIn K mg "_law_is_cell" s_L_is_cell p_L_is_cell)
    (I_L_is_cells : DefIn K mg "_law_is_cells" s_L_is_cells p_L_is_cells)
    (I_L_drawn : DefIn K mg "_law_drawn" s_L_drawn p_L_drawn)
    (I_L_same : DefIn K mg "_law_same" s_L_same p_L_same) :
    ∃ fd : FuncData, (∀ (s : Shared) (v : Value), BindsTo s fd ⟨[v], []⟩ [("script", v)]) ∧ ∀ base : Heap, K.In base → base.Ns mainGlobals mg → FnOk PySem.Challenge.rw_cornerfill_k01_boards_told.prog w K mg base CX0 5 fa fd ["script"] (spLaw K) := by
  refine law_end L (fun base f fd h1 h2 F => ?_) (fun _ _ _ _ _ _ v => rfl)
  have D_Board := (I_B_init.bm (P := PySem.Challenge.rw_cornerfill_k01_boards_told.prog) (w := w) (mg := mg) (base := base) (ok_init BT))
  have M_width := (I_B_width.mf (P := PySem.Challenge.rw_cornerfill_k01_boards_told.prog) (w := w) (mg := mg) (base := base) (ok_width BT))
  have M_height := (I_B_height.mf (P := PySem.Challenge.rw_cornerfill_k01_boards_told.prog) (w := w) (mg := mg) (base := base) (ok_height BT))
  have M_gaps := (I_B_gaps.mf (P := PySem.Challenge.rw_cornerfill_k01_boards_told.prog) (w := w) (mg := mg) (base := base) (ok_gaps BT B))
  have M_open_cells := (I_B_open_cells.mf (P := PySem.Challenge.rw_cornerfill_k01_boards_told.prog) (w := w) (mg := mg) (base := base) (ok_open BT B))
  have D_L_cell_at := (I_L_cell_at.df (P := PySem.Challenge.rw_cornerfill_k01_boards_told.prog) (w := w) (mg := mg) (base := base) (ok_cell_at B))
  have D_L_whole := (I_L_whole.df (P := PySem.Challenge.rw_cornerfill_k01_boards_told.prog) (w := w) (mg := mg) (base := base) (ok_whole B))
  have D_L_gaps_by := (I_L_gaps_by.df (P := PySem.Challenge.rw_cornerfill_k01_boards_told.prog) (w := w) (mg := mg) (base := base) (ok_gaps_by B D_L_cell_at))
  have D_L_open := (I_L_open.df (P := PySem.Challenge.rw_cornerfill_k01_boards_told.prog) (w := w) (mg := mg) (base := base) (ok_L_open B))
  have D_L_is_cell := (I_L_is_cell.df (P := PySem.Challenge.rw_cornerfill_k01_boards_told.prog) (w := w) (mg := mg) (base := base) (ok_is_cell B D_L_whole))
  have D_L_is_cells := (I_L_is_cells.df (P := PySem.Challenge.rw_cornerfill_k01_boards_told.prog) (w := w) (mg := mg) (base := base) (ok_is_cells B D_L_is_cell))
  have D_L_drawn := (I_L_drawn.df (P := PySem.Challenge.rw_cornerfill_k01_boards_told.prog) (w := w) (mg := mg) (base := base) (ok_drawn B D_L_cell_at D_L_gaps_by))
  have D_L_same := (I_L_same.df (P := PySem.Challenge.rw_cornerfill_k01_boards_told.prog) (w := w) (mg := mg) (base := base) (ok_same B BT D_L_whole D_L_open D_L_is_cells M_width M_height M_gaps M_open_cells))
  exact ok_law B BT D_Board D_L_drawn D_L_same f fd F
end CF
open PySem PySem.W PyProof.Rows CF L2
set_option maxRecDepth 100000 in
set_option maxHeartbeats 0 in
theorem PySem.Challenge.cw_cornerfill_k01_boards_told_holds : PySem.Challenge.rw_cornerfill_k01_boards_told.Holds := by
  w_on; o_law; k_head; (case hw => w_witness2)
  k_fill
  refine CF.walk (l := PySem.Challenge.rw_cornerfill_k01_boards_told) 5 ⟨rfl, by decide, by decide⟩ rfl rfl (fun w h Y => PySem.W.kIn_of Y) ?F
  case F =>
    intro w mg fa h KX G hmg
    refine' all_mk ?L ?B ?BT ?I_B_init ?I_B_width ?I_B_height ?I_B_gaps ?I_B_open_cells ?I_L_cell_at ?I_L_whole ?I_L_gaps_by ?I_L_open ?I_L_is_cell ?I_L_is_cells ?I_L_drawn ?I_L_same
    case I_B_init =>
      refine' initIn_mk KX G ?aC ?mk ?kc ?a ?i ?l ?c ?k (fun _ _ _ _ _ _ us hl => match us, hl with | [_, _, _, _], _ => rfl)
      (case aC => k_is)
      (case mk => k_is)
      (case kc => k_is)
      (case a => k_is)
      (case i => k_is)
      (case l => k_is)
      (case c => k_is)
      (case k => k_is)
    case I_B_width =>
      refine' methIn_mk ?a ?i ?l ?c ?k (fun _ _ _ _ _ _ us hl => match us, hl with | [_], _ => rfl)
      (case a => k_is)
      (case i => k_is)
      (case l => k_is)
      (case c => k_is)
      (case k => k_is)
    case I_B_height =>
      refine' methIn_mk ?a ?i ?l ?c ?k (fun _ _ _ _ _ _ us hl => match us, hl with | [_], _ => rfl)
      (case a => k_is)
      (case i => k_is)
      (case l => k_is)
      (case c => k_is)
      (case k => k_is)
    case I_B_gaps =>
      refine' methIn_mk ?a ?i ?l ?c ?k (fun _ _ _ _ _ _ us hl => match us, hl with | [_], _ => rfl)
      (case a => k_is)
      (case i => k_is)
      (case l => k_is)
      (case c => k_is)
      (case k => k_is)
    case I_B_open_cells =>
      refine' methIn_mk ?a ?i ?l ?c ?k (fun _ _ _ _ _ _ us hl => match us, hl with | [_], _ => rfl)
      (case a => k_is)
      (case i => k_is)
      (case l => k_is)
      (case c => k_is)
      (case k => k_is)
    case I_L_cell_at =>
      refine' defIn_mk KX G ?a ?l ?c ?k (fun _ _ _ _ _ _ us hl => match us, hl with | [_, _], _ => rfl)
      (case a => k_is)
      (case l => k_is)
      (case c => k_is)
      (case k => k_is)
    case I_L_whole =>
      refine' defIn_mk KX G ?a ?l ?c ?k (fun _ _ _ _ _ _ us hl => match us, hl with | [_], _ => rfl)
      (case a => k_is)
      (case l => k_is)
      (case c => k_is)
      (case k => k_is)
    case I_L_gaps_by =>
      refine' defIn_mk KX G ?a ?l ?c ?k (fun _ _ _ _ _ _ us hl => match us, hl with | [_, _, _, _, _], _ => rfl)
      (case a => k_is)
      (case l => k_is)
      (case c => k_is)
      (case k => k_is)
    case I_L_open =>
      refine' defIn_mk KX G ?a ?l ?c ?k (fun _ _ _ _ _ _ us hl => match us, hl with | [_, _, _], _ => rfl)
      (case a => k_is)
      (case l => k_is)
      (case c => k_is)
      (case k => k_is)
    case I_L_is_cell =>
      refine' defIn_mk KX G ?a ?l ?c ?k (fun _ _ _ _ _ _ us hl => match us, hl with | [_], _ => rfl)
      (case a => k_is)
      (case l => k_is)
      (case c => k_is)
      (case k => k_is)
    case I_L_is_cells =>
      refine' defIn_mk KX G ?a ?l ?c ?k (fun _ _ _ _ _ _ us hl => match us, hl with | [_, _], _ => rfl)
      (case a => k_is)
      (case l => k_is)
      (case c => k_is)
      (case k => k_is)
    case I_L_drawn =>
      refine' defIn_mk KX G ?a ?l ?c ?k (fun _ _ _ _ _ _ us hl => match us, hl with | [_, _], _ => rfl)
      (case a => k_is)
      (case l => k_is)
      (case c => k_is)
      (case k => k_is)
    case I_L_same =>
      refine' defIn_mk KX G ?a ?l ?c ?k (fun _ _ _ _ _ _ us hl => match us, hl with | [_, _, _, _], _ => rfl)
      (case a => k_is)
      (case l => k_is)
      (case c => k_is)
      (case k => k_is)

    case L =>
      refine' lawIn_mk KX G hmg ?a ?l ?c ?k
      (case a => k_is)
      (case l => k_is)
      (case c => k_is)
      (case k => k_is)
    case B =>
      refine' bl_mk KX G ?z1 ?z2 ?z3 ?z4 ?z5 ?z6 ?z7 ?z8 ?z9 ?z10 ?z11 ?z12
      all_goals k_is
    case BT =>
      refine' btx_mk KX G ?pg ?hd ?po ?sa ?nW ?nH ?nM ?aM
      (case pg => k_is)
      (case hd => k_is)
      (case po => k_is)
      (case sa => k_is)
      (case nW => k_is)
      (case nH => k_is)
      (case nM => k_is)
      (case aM => k_is)
#print axioms PySem.Challenge.cw_cornerfill_k01_boards_told_holds
