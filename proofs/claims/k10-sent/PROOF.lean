import PyProof.Rows.All
import Wide.All
import OpenK.AllK
import Wide.FinOn
import KE.KStateDown
import HandS.ForMost
import HandS.ForSpec
import HandS.Codes
import HandS.IsInst
import HandS.Defaults
import HandS.TupAny
import HandS.Deep
import HandS.Conv
import HandS.TupLen
import HandS.Head0
import HandS.Head1
import HandS.Head2
import HandS.HeadEnd
import HandS.HeadHook1
import HandS.HeadHook2
import HandS.HeadHook3
import HandS.HeadHook4
import PySem.Challenge.RW_chords_k10_sent
set_option Elab.async false
set_option linter.all false
set_option maxRecDepth 100000
namespace Ch
open PySem PySem.Spec PyProof.Rows L2
def top (i : Nat) : Stmt := PySem.Challenge.pw_chords_k10_sent.main.body.getD i (.Pass ⟨0, 0, 0, 0⟩)
/-! ### texts as lists of signs -/
abbrev S := SX.S
abbrev Tx := List Nat
theorem S_inj {a b : Tx} (h : S a = S b) : a = b := SX.S_inj h
theorem S_len (a : Tx) : (S a).length = a.length := SX.S_len a
theorem S_cat (a b : Tx) : S a ++ S b = S (a ++ b) := SX.S_cat a b
theorem str_inj {a b : Tx} : V.str (S a) = V.str (S b) ↔ a = b := ⟨fun h => S_inj (V.str.inj h), fun h => by rw [h]⟩
theorem S_toList (a : Tx) : (S a).cps.toList = a := rfl
theorem of_S (s : String) : Str.ofString s = S (s.toList.map Char.toNat) := Str.ofString_eq_toList s
theorem S_eq {a b : Tx} : S a = S b ↔ a = b := ⟨S_inj, fun h => by rw [h]⟩
theorem sg_eq (c : Nat) : ({ cps := #[c] } : Str) = S [c] := rfl
theorem lit_99_104_111_114_100_115_46_100_101_115_107 : Str.ofString "chords.desk" = S [99, 104, 111, 114, 100, 115, 46, 100, 101, 115, 107] := by decide +kernel
theorem lit_108_97_119_95_99_104_111_114_100_115_95_107_49_48_95_115_101_110_116 : Str.ofString "law_chords_k10_sent" = S [108, 97, 119, 95, 99, 104, 111, 114, 100, 115, 95, 107, 49, 48, 95, 115, 101, 110, 116] := by decide +kernel
theorem lit_ : Str.ofString "" = S [] := by decide +kernel
theorem lit_97_98_32 : Str.ofString "ab " = S [97, 98, 32] := by decide +kernel
theorem size_le {n : Nat} (h : n ≤ 1000000) : n ≤ sizeLine := Nat.le_trans h (by decide)
theorem size_lt {n : Nat} (h : n < 1000000) : n < sizeLine := Nat.lt_of_lt_of_le h (by decide)
/-! ### heaps -/
theorem same_new {H : Hp} {p : Addr} {o : HO} (h : H p = none) : Same H (upd H p o) := fun b x e => by
  rw [upd_ne (ne_of_none e h)]
  exact e
theorem same_mut {H H' : Hp} {p : Addr} {o : HO} (e : Same H H') (h : H p = none) : Same H (upd H' p o) := fun a u ha => by
  rw [upd_ne (ne_of_none ha h)]
  exact e a u ha
theorem sq_of {K : PySem.W.Frag} {H : Hp} {a : Addr} {xs : List V} (h : H a = some (.lst xs)) : SqL K H a xs := .inl (.inl h)
theorem st_of {K : PySem.W.Frag} {H : Hp} {a : Addr} {xs : List V} (h : H a = some (.tup xs)) : SqT K H a xs := .inl (.inl h)
theorem same_t {K : PySem.W.Frag} {H H' : Hp} {a : Addr} {xs : List V} (e : Same H H') (h : SqT K H a xs) : SqT K H' a xs := by
  rcases h with (h | ⟨o, h⟩) | h
  · exact .inl (.inl (e _ _ h))
  · exact .inl (.inr ⟨o, e _ _ h⟩)
  · exact .inr h
theorem same_l {K : PySem.W.Frag} {H H' : Hp} {a : Addr} {xs : List V} (e : Same H H') (h : SqL K H a xs) : SqL K H' a xs := e.seq h
theorem Dp.ext {K : PySem.W.Frag} {H H' : Hp} (e : Same H H') {v : V} {d : PyData} (h : Dp K H v d) : Dp K H' v d := by
  refine Dp.rec (motive_1 := fun v d _ => Dp K H' v d) (motive_2 := fun vs ds _ => DpAll K H' vs ds) ?_ ?_ ?_ ?_ ?_ ?_ ?_ ?_ h
  · exact .non
  · exact .bl
  · exact .int
  · exact .str
  · intro a xs ds hs _ ih
    exact .lst (same_l e hs) ih
  · intro a xs ds hs _ ih
    exact .tup (same_t e hs) ih
  · exact .nil
  · intro v vs d ds _ _ h1 h2
    exact .cons h1 h2
theorem DpAll.ext {K : PySem.W.Frag} {H H' : Hp} (e : Same H H') : ∀ {vs : List V} {ds : List PyData}, DpAll K H vs ds → DpAll K H' vs ds
  | _, _, .nil => .nil
  | _, _, .cons h t => .cons (Dp.ext e h) (DpAll.ext e t)
theorem DpAll.len {K : PySem.W.Frag} {H : Hp} : ∀ {vs : List V} {ds : List PyData}, DpAll K H vs ds → vs.length = ds.length
  | _, _, .nil => rfl
  | _, _, .cons _ t => congrArg (· + 1) (DpAll.len t)
theorem DpAll.get {K : PySem.W.Frag} {H : Hp} : ∀ {vs : List V} {ds : List PyData} {i : Nat} {d : PyData}, DpAll K H vs ds → ds[i]? = some d → ∃ v, vs[i]? = some v ∧ Dp K H v d
  | _, _, _, _, .nil, h => by simp at h
  | _, _, 0, _, .cons h _, e => by
    simp at e
    subst e
    exact ⟨_, rfl, h⟩
  | _, _, i + 1, _, .cons _ t, e => by
    obtain ⟨v, h1, h2⟩ := DpAll.get (i := i) t (by simpa using e)
    exact ⟨v, by simpa using h1, h2⟩
theorem DpAll.app {K : PySem.W.Frag} {H : Hp} : ∀ {vs ws : List V} {ds es : List PyData}, DpAll K H vs ds → DpAll K H ws es → DpAll K H (vs ++ ws) (ds ++ es)
  | _, _, _, _, .nil, h => h
  | _, _, _, _, .cons a t, h => .cons a (DpAll.app t h)
theorem dp_int {K : PySem.W.Frag} {H : Hp} {v : V} {i : Int} (h : Dp K H v (.int i)) : v = .int i := by cases h; rfl
theorem dp_str {K : PySem.W.Frag} {H : Hp} {v : V} {x : Str} (h : Dp K H v (.str x)) : v = .str x := by cases h; rfl
theorem dp_bl {K : PySem.W.Frag} {H : Hp} {v : V} {b : Bool} (h : Dp K H v (.bool b)) : v = .bl b := by cases h; rfl
theorem dp_non {K : PySem.W.Frag} {H : Hp} {v : V} (h : Dp K H v .none) : v = .non := by cases h; rfl
theorem dp_tup {K : PySem.W.Frag} {H : Hp} {v : V} {ds : List PyData} (h : Dp K H v (.tuple ds)) : ∃ a xs, v = .ref a ∧ SqT K H a xs ∧ DpAll K H xs ds := by
  cases h with
  | tup h1 h2 => exact ⟨_, _, rfl, h1, h2⟩
theorem dp_lst {K : PySem.W.Frag} {H : Hp} {v : V} {ds : List PyData} (h : Dp K H v (.list ds)) : ∃ a xs, v = .ref a ∧ SqL K H a xs ∧ DpAll K H xs ds := by
  cases h with
  | lst h1 h2 => exact ⟨_, _, rfl, h1, h2⟩
theorem dp_ints {K : PySem.W.Frag} {H : Hp} : ∀ ns : List Int, DpAll K H (ns.map V.int) (ns.map PyData.int)
  | [] => .nil
  | n :: r => .cons (.int n) (dp_ints r)
theorem dp_strs {K : PySem.W.Frag} {H : Hp} : ∀ ns : List Str, DpAll K H (ns.map V.str) (ns.map PyData.str)
  | [] => .nil
  | n :: r => .cons (.str n) (dp_strs r)
theorem shaped_ints (ns : List Int) : SeqAt.shaped (.list (ns.map PyData.int)) = true := by
  have h1 : ∀ ns : List Int, PyData.canLayAll0 (ns.map PyData.int) = true := fun ns => by
    induction ns with
    | nil => rfl
    | cons n r ih => simp only [List.map_cons, PyData.canLayAll0, PyData.canLay0, ih, Bool.and_true]
  have h2 : ∀ ns : List Int, PyData.depthAll (ns.map PyData.int) = 0 := fun ns => by
    induction ns with
    | nil => rfl
    | cons n r ih => simp only [List.map_cons, PyData.depthAll, PyData.depth, ih, Nat.max_self]
  simp only [SeqAt.shaped, PyData.canLay0, h1, PyData.depth, h2, Bool.true_and, decide_eq_true_eq]
  decide
theorem eqv_nil (ds : List PyData) : PyData.eqv (.list ds) (.list []) = ds.isEmpty := by
  cases ds with
  | nil => simp only [PyData.eqv, PyData.eqvAll, List.isEmpty_nil]
  | cons d r => simp only [PyData.eqv, PyData.eqvAll, List.isEmpty_cons]
/-- the tuples stay -/
def KT (G G' : Hp) : Prop := ∀ a xs, Rd G a (.tup xs) → Rd G' a (.tup xs)
theorem KT.of {G G' : Hp} (e : Same G G') : KT G G' := fun a xs h => by
  rcases h with h | ⟨o, h⟩
  · exact .inl (e _ _ h)
  · exact .inr ⟨o, e _ _ h⟩
theorem KT.refl (G : Hp) : KT G G := fun _ _ h => h
theorem KT.trans {G G1 G2 : Hp} (a : KT G G1) (b : KT G1 G2) : KT G G2 := fun p xs h => b p xs (a p xs h)
theorem KT.put {G : Hp} {p : Addr} {o o' : HO} (h : G p = some o) (h1 : ∀ xs, o ≠ .tup xs) (h2 : ∀ u xs, o ≠ .frz u (.tup xs)) : KT G (upd G p o') := fun a xs q => by
  rcases q with q | ⟨u, q⟩
  · exact .inl (by rw [upd_ne (fun e => h1 xs (by rw [e, h] at q; exact Option.some.inj q))]; exact q)
  · exact .inr ⟨u, by rw [upd_ne (fun e => h2 u xs (by rw [e, h] at q; exact Option.some.inj q))]; exact q⟩
theorem KT.putL {G : Hp} {p : Addr} {xs : List V} {o' : HO} (h : G p = some (.lst xs)) : KT G (upd G p o') := KT.put h (fun _ q => by cases q) fun _ _ q => by cases q
theorem KT.sq {K : PySem.W.Frag} {G G' : Hp} {a : Addr} {xs : List V} (e : KT G G') (h : SqT K G a xs) : SqT K G' a xs := by
  rcases h with h | h
  · exact .inl (e _ _ h)
  · exact .inr h
mutual
/-- data without lists -/
def noL : PyData → Bool
  | .none | .bool _ | .int _ | .str _ => true
  | .tuple ds => noLs ds
  | .list _ | .dict _ => false
def noLs : List PyData → Bool
  | [] => true
  | d :: r => noL d && noLs r
end
theorem Dp.kt {K : PySem.W.Frag} {H H' : Hp} (e : KT H H') {v : V} {d : PyData} (n : noL d = true) (h : Dp K H v d) : Dp K H' v d := by
  refine Dp.rec (motive_1 := fun v d _ => noL d = true → Dp K H' v d) (motive_2 := fun vs ds _ => noLs ds = true → DpAll K H' vs ds) ?_ ?_ ?_ ?_ ?_ ?_ ?_ ?_ h n
  · exact fun _ => .non
  · exact fun b _ => .bl b
  · exact fun i _ => .int i
  · exact fun x _ => .str x
  · intro a xs ds hs _ ih n
    simp only [noL, Bool.false_eq_true] at n
  · intro a xs ds hs _ ih n
    simp only [noL] at n
    exact .tup (e.sq hs) (ih n)
  · exact fun _ => .nil
  · intro v vs d ds _ _ h1 h2 n
    simp only [noLs, Bool.and_eq_true] at n
    exact .cons (h1 n.1) (h2 n.2)
theorem DpAll.kt {K : PySem.W.Frag} {H H' : Hp} (e : KT H H') : ∀ {vs : List V} {ds : List PyData}, noLs ds = true → DpAll K H vs ds → DpAll K H' vs ds
  | _, _, _, .nil => .nil
  | _, _, n, .cons h t => by
    simp only [noLs, Bool.and_eq_true] at n
    exact .cons (Dp.kt e n.1 h) (DpAll.kt e n.2 t)
/-! ### a def by its name -/
structure Cal (P : Program) (w : World) (K : PySem.W.Frag) (mg : Str → Option Value) (base : Heap) (CX : CXT) (k : Nat) (x : Str) (sp : Sp) : Prop where
  ex : ∃ (f : Addr) (fd : FuncData) (ps : List Str), FnOk P w K mg base CX k f fd ps sp ∧ mg x = some (.ref f) ∧ PySem.W.keepIn K (.ref f) = true ∧ Binds K fd ps []
section
variable {X : Cx} {k j : Nat} {x m : Str} {sp : Sp} {p pos apos : Pos} {e o : Expr} {es : List Expr} {ta : TE} {t : TA}
theorem pe_c (c : Cal X.prog X.w X.K X.mg X.base CX0 k x sp) (hr : Room j X.A) (hk : k ≤ j) (hg : Gl X x) (ha : PA X (e :: es) t)
    (hdb : (x == ("__debug__" : Str)) = false := by decide) (he : starEach (e :: es) X.env = (false, eval e X.env) :: starEach es X.env := by rfl) (hpl : (backTo pos (starEach es X.env)).any (·.1) = false := by rfl) :
    PE X (.Call (.Name x p) (e :: es) [] pos) (tCall sp [] E0 t) := by
  obtain ⟨f, fd, ps, F, hm, kp, b⟩ := c.ex
  exact pe_call F (hr.mono hk) hg hm kp b .nil pass0 ha hdb he hpl
theorem pe_gc {v : V} (hg : Gl X x) (h : ∃ u, X.mg x = some u ∧ RelV v u) (hd : (x == ("__debug__" : Str)) = false := by decide) : PE X (.Name x pos) (tC v) := by
  obtain ⟨u, hm, r⟩ := h
  exact pe_glob hg hm r hd
end
/-! ### the box of a script's numbers: G is all that is known beside it -/
def Bx (b : Addr) (G H : Hp) : Prop := Same G H ∧ G b = none ∧ ∃ (l : Addr) (ns : List Int) (s : Int), G l = none ∧ H b = some (.lst [.ref l, .int s]) ∧ H l = some (.lst (ns.map V.int)) ∧ 0 ≤ s ∧ s < 2147483647
theorem Bx.ex {b : Addr} {G H : Hp} (h : Bx b G H) : Same G H := h.1
theorem Bx.alloc {b p : Addr} {G H : Hp} {o : HO} (h : Bx b G H) (hp : H p = none) : Bx b (upd G p o) (upd H p o) := by
  obtain ⟨s0, gb, l, ns, s, gl, hb, hl, r⟩ := h
  have nb : b ≠ p := ne_of_none hb hp
  have nl : l ≠ p := ne_of_none hl hp
  refine ⟨fun a u e => ?_, by rw [upd_ne nb]; exact gb, l, ns, s, by rw [upd_ne nl]; exact gl, by rw [upd_ne nb]; exact hb, by rw [upd_ne nl]; exact hl, r⟩
  by_cases ha : a = p
  · subst ha
    rw [upd_same] at e ⊢
    exact e
  · rw [upd_ne ha] at e ⊢
    exact s0 a u e
theorem Bx.put {b p : Addr} {G H : Hp} {o o' : HO} (h : Bx b G H) (hp : G p = some o) : Bx b (upd G p o') (upd H p o') := by
  obtain ⟨s0, gb, l, ns, s, gl, hb, hl, r⟩ := h
  have nb : b ≠ p := (ne_of_none hp gb).symm
  have nl : l ≠ p := (ne_of_none hp gl).symm
  refine ⟨fun a u e => ?_, by rw [upd_ne nb]; exact gb, l, ns, s, by rw [upd_ne nl]; exact gl, by rw [upd_ne nb]; exact hb, by rw [upd_ne nl]; exact hl, r⟩
  by_cases ha : a = p
  · subst ha
    rw [upd_same] at e ⊢
    exact e
  · rw [upd_ne ha] at e ⊢
    exact s0 a u e
abbrev FunS (K : PySem.W.Frag) (x : Str) (st : Stmt) (f : Addr) (fd : FuncData) : Prop := FunD K x x (defArgs st) (defBody st) (defScope st) [] [] f fd
theorem cal_of {P : Program} {w : World} {K : PySem.W.Frag} {mg : Str → Option Value} {base : Heap} {CX : CXT} {k : Nat} {x : Str} {st : Stmt} {f : Addr} {fd : FuncData} {ps : List Str} {sp : Sp} (F : FunS K x st f fd) (ok : FnOk P w K mg base CX k f fd ps sp) (m : mg x = some (.ref f)) (b : Binds K fd ps []) :
    Cal P w K mg base CX k x sp := ⟨f, fd, ps, ok, m, F.kp, b⟩
theorem start2 {a b c : Str} {u v : V} : L2.start [a, b, c] [u, v] = [some u, some v, none] := rfl
theorem cxOf_K {CX : CXT} {P : Program} {w : World} {K : PySem.W.Frag} {mg : Str → Option Value} {base : Heap} {N : List Str} {qual : Str} {scope : Scope} {f : Addr} {cd : Value} {A : Around} {outer : List Env} {s : Shared} {H : Hp} {E : XK} :
    (cxOf CX P w K mg base N qual scope f cd A outer s H E).K = K := rfl
/-- a new object: the heap behind it by a letter -/
theorem al_ {H H1 : Hp} {p : Addr} {o : HO} (hp : H p = none) (e : upd H p o = H1) : Same H H1 ∧ H1 p = some o := by
  subst e
  exact ⟨same_new hp, upd_same⟩
theorem alB_ {b p : Addr} {G H H1 : Hp} {o : HO} (B : Bx b G H) (hp : H p = none) (e : upd H p o = H1) : ∃ G1, G p = none ∧ Same G G1 ∧ Bx b G1 H1 ∧ G1 p = some o := by
  subst e
  exact ⟨upd G p o, B.ex.free hp, same_new (B.ex.free hp), B.alloc hp, upd_same⟩
theorem at0 {α : Type} (x : α) (r : List α) : atI (x :: r) 0 = some x := atI_nat (j := 0) rfl
theorem at1 {α : Type} (x y : α) (r : List α) : atI (x :: y :: r) 1 = some y := atI_nat (j := 1) rfl
theorem ixn {n j : Nat} (h : j < n) : ixN n (j : Int) = some j := by
  unfold ixN
  rw [if_pos (by omega), if_pos (by omega)]
  simp
theorem ix0 (n : Nat) : ixN (n + 1) 0 = some 0 := ixn (j := 0) (by omega)
/-! ### loops -/
theorem drop_cons {α : Type} {xs : List α} {i : Nat} {x : α} (h : xs[i]? = some x) : xs.drop i = x :: xs.drop (i + 1) := by
  obtain ⟨h1, h2⟩ := List.getElem?_eq_some_iff.mp h
  rw [← h2]
  exact List.drop_eq_getElem_cons h1
/-- the turns of a for, once what it walks has come -/
def LoopP (J : It) (g : TG) (tb : TS) (D : Ends) (σ : L2.St) (H : Hp) : Prop := ∃ W : Nat → Nat → L2.St → Hp → Prop, (∃ m, W 0 m σ H) ∧ ∀ i m σ H, W i m σ H →
  (J.stop i H ∧ D.nx σ H) ∨ (J.go i H ∧ ∃ N : L2.St → Hp → Prop, (∀ σ' H', N σ' H' → ∃ m', m' < m ∧ W (i + 1) m' σ' H') ∧ ∀ x H', J.yld i H x H' → g x σ H' fun σ2 H2 => tb { D with nx := N, ct := N, bk := D.nx } σ2 H2)
theorem tFor_eq {wi : TI} {g : TG} {tb : TS} {D : Ends} {σ : L2.St} {H : Hp} : tFor wi g tb D σ H = wi σ H fun J H1 => LoopP J g tb D σ H1 := rfl
/-- the turns of a comprehension, L the new list -/
def CompP (J : It) (g : TG) (tt : TT) (te : TE) (vs : List Nat) (σ : L2.St) (L : Addr) (Q : VK) (H : Hp) : Prop := ∃ W : Nat → Nat → Hp → Prop, (∃ m, W 0 m H) ∧ ∀ i m H, W i m H →
  (J.stop i H ∧ Q (.ref L) H) ∨ (J.go i H ∧ ∃ Nx : Hp → Prop, (∀ H', Nx H' → ∃ m', m' < m ∧ W (i + 1) m' H') ∧ ∀ x H', J.yld i H x H' → g x (wipe σ vs) H' fun σ2 H2 => wipe σ2 vs = wipe σ vs ∧ tt σ2 H2 fun b H3 =>
    if b = true then te σ2 H3 fun y H4 => ∃ acc, H4 L = some (.lst acc) ∧ acc.length < sizeLine ∧ Nx (upd H4 L (.lst (acc ++ [y]))) else Nx H3)
theorem tLc_eq {wi : TI} {g : TG} {tt : TT} {te : TE} {vs : List Nat} {σ : L2.St} {H : Hp} {Q : VK} : tLc wi g tt te vs σ H Q = wi σ H fun J H1 => ∀ L, H1 L = none → CompP J g tt te vs σ L Q (upd H1 L (.lst [])) := rfl
theorem iList_eq {K : PySem.W.Frag} {te : TE} {σ : L2.St} {H : Hp} {R : It → Hp → Prop} : iList K te σ H R = te σ H fun v H1 => ∃ a, v = .ref a ∧ (∃ xs, SqL K H1 a xs) ∧ R (Itl K a) H1 := rfl
theorem iTup_eq {K : PySem.W.Frag} {te : TE} {σ : L2.St} {H : Hp} {R : It → Hp → Prop} : iTup K te σ H R = te σ H fun v H1 => ∃ a, v = .ref a ∧ (∃ xs, SqT K H1 a xs) ∧ R (Itt K a) H1 := rfl
theorem iRng1_eq {t : TA} {σ : L2.St} {H : Hp} {R : It → Hp → Prop} : iRng1 t σ H R = t σ H fun vs H1 => ∃ j : Int, vs = [.int j] ∧ -(2 ^ 62) ≤ j ∧ j < 2 ^ 62 ∧ R (Itr 0 j.toNat) H1 := rfl
theorem iStr_eq {te : TE} {σ : L2.St} {H : Hp} {R : It → Hp → Prop} : iStr te σ H R = te σ H fun v H1 => ∃ x, v = .str x ∧ R (Its x) H1 := rfl
section
variable {g : TG} {tb : TS} {D : Ends} {σ : L2.St} {H : Hp} {tt : TT} {te : TE} {vs : List Nat} {L : Addr} {Q : VK}
/-- over a list that stands: Pv by what is left -/
theorem loop_list {K : PySem.W.Frag} {a : Addr} (xs : List V) (Pv : List V → L2.St → Hp → Prop) (h0 : Pv xs σ H) (hl : ∀ r σ H, Pv r σ H → SqL K H a xs)
    (hs : ∀ x r σ H, Pv (x :: r) σ H → g x σ H fun σ2 H2 => tb { D with nx := Pv r, ct := Pv r, bk := D.nx } σ2 H2) (hd : ∀ σ H, Pv [] σ H → D.nx σ H) : LoopP (Itl K a) g tb D σ H :=
  for_list (fun i σ H => Pv (xs.drop i) σ H) h0 (fun i σ H _ q => hl _ _ _ q) (fun i x σ H e q => by
    rw [drop_cons e] at q
    exact hs x _ σ H q) fun σ H q => hd σ H (by rw [List.drop_length] at q; exact q)
theorem loop_tup {K : PySem.W.Frag} {a : Addr} (xs : List V) (Pv : List V → L2.St → Hp → Prop) (h0 : Pv xs σ H) (hl : ∀ r σ H, Pv r σ H → SqT K H a xs)
    (hs : ∀ x r σ H, Pv (x :: r) σ H → g x σ H fun σ2 H2 => tb { D with nx := Pv r, ct := Pv r, bk := D.nx } σ2 H2) (hd : ∀ σ H, Pv [] σ H → D.nx σ H) : LoopP (Itt K a) g tb D σ H :=
  for_tup (fun i σ H => Pv (xs.drop i) σ H) h0 (fun i σ H _ q => hl _ _ _ q) (fun i x σ H e q => by
    rw [drop_cons e] at q
    exact hs x _ σ H q) fun σ H q => hd σ H (by rw [List.drop_length] at q; exact q)
/-- over a range from 0, by the turn -/
theorem loop_range {n : Nat} (Pv : Nat → L2.St → Hp → Prop) (h0 : Pv 0 σ H)
    (hs : ∀ i σ H, i < n → Pv i σ H → g (.int i) σ H fun σ2 H2 => tb { D with nx := Pv (i + 1), ct := Pv (i + 1), bk := D.nx } σ2 H2) (hd : ∀ σ H, Pv n σ H → D.nx σ H) : LoopP (Itr 0 n) g tb D σ H :=
  for_range Pv h0 (fun i σ H hi p => by
    have e0 : (0 : Int) + (i : Int) = (i : Int) := Int.zero_add _
    rw [e0]
    exact hs i σ H hi p) hd
/-- over a text's signs -/
theorem loop_str (cs : Tx) (Pv : Tx → L2.St → Hp → Prop) (h0 : Pv cs σ H)
    (hs : ∀ c r σ H, Pv (c :: r) σ H → g (.str (S [c])) σ H fun σ2 H2 => tb { D with nx := Pv r, ct := Pv r, bk := D.nx } σ2 H2) (hd : ∀ σ H, Pv [] σ H → D.nx σ H) : LoopP (Its (S cs)) g tb D σ H := by
  refine ⟨fun i m σ H => m = cs.length - i ∧ i ≤ cs.length ∧ Pv (cs.drop i) σ H, ⟨cs.length, by simp, Nat.zero_le _, h0⟩, ?_⟩
  rintro i m σ H ⟨rfl, hi, p⟩
  have sz : (S cs).cps.size = cs.length := by simp
  by_cases hlt : i < cs.length
  · refine .inr ⟨by show i < (S cs).cps.size; omega, Pv (cs.drop (i + 1)), fun σ' H' p' => ⟨cs.length - (i + 1), by omega, rfl, hlt, p'⟩, fun x H' y => ?_⟩
    obtain ⟨e, c, e2, e3⟩ := y
    subst e e3
    have e4 : cs[i]? = some c := by
      rw [← e2]
      simp
    rw [drop_cons e4] at p
    exact hs c _ σ _ p
  · have e : i = cs.length := by omega
    subst e
    rw [List.drop_length] at p
    exact .inl ⟨by show (S cs).cps.size ≤ _; omega, hd σ H p⟩
/-- comprehensions: what stands behind a turn -/
def CNx (L : Addr) (i : Nat) (P : List V → Hp → Prop) (H : Hp) : Prop := ∃ acc, H L = some (.lst acc) ∧ acc.length ≤ i ∧ P acc H
theorem cput {i : Nat} {acc : List V} {y : V} {P : List V → Hp → Prop} (hL : H L = some (.lst acc)) (ha : acc.length ≤ i) (hi : i < 1000000) (h : P (acc ++ [y]) (upd H L (.lst (acc ++ [y])))) :
    ∃ acc, H L = some (.lst acc) ∧ acc.length < sizeLine ∧ CNx L (i + 1) P (upd H L (.lst (acc ++ [y]))) :=
  ⟨acc, hL, size_lt (by omega), acc ++ [y], upd_same, by rw [List.length_append, List.length_singleton]; omega, h⟩
theorem cskip {i : Nat} {acc : List V} {P : List V → Hp → Prop} (hL : H L = some (.lst acc)) (ha : acc.length ≤ i) (h : P acc H) : CNx L (i + 1) P H := ⟨acc, hL, by omega, h⟩
theorem comp_list {K : PySem.W.Frag} {a : Addr} (xs : List V) (Pv : List V → List V → Hp → Prop) (hz : xs.length ≤ 1000000) (h0 : Pv xs [] H) (hL0 : H L = some (.lst [])) (hl : ∀ r acc H, Pv r acc H → SqL K H a xs)
    (hs : ∀ i x r acc H, H L = some (.lst acc) → acc.length ≤ i → i < 1000000 → Pv (x :: r) acc H → g x (wipe σ vs) H fun σ2 H2 => wipe σ2 vs = wipe σ vs ∧ tt σ2 H2 fun b H3 =>
      if b = true then te σ2 H3 fun y H4 => ∃ acc, H4 L = some (.lst acc) ∧ acc.length < sizeLine ∧ CNx L (i + 1) (Pv r) (upd H4 L (.lst (acc ++ [y]))) else CNx L (i + 1) (Pv r) H3)
    (hd : ∀ acc H, H L = some (.lst acc) → acc.length ≤ xs.length → Pv [] acc H → Q (.ref L) H) : CompP (Itl K a) g tt te vs σ L Q H := by
  refine ⟨fun i m H => m = xs.length - i ∧ i ≤ xs.length ∧ CNx L i (Pv (xs.drop i)) H, ⟨xs.length, by simp, Nat.zero_le _, [], hL0, Nat.le_refl _, h0⟩, ?_⟩
  rintro i m H ⟨rfl, hi, acc, hA, hn, p⟩
  have q := hl _ _ _ p
  by_cases hlt : i < xs.length
  · refine .inr ⟨⟨xs, xs[i], q, by simp [hlt]⟩, CNx L (i + 1) (Pv (xs.drop (i + 1))), fun H' p' => ⟨xs.length - (i + 1), by omega, rfl, hlt, p'⟩, fun x H' y => ?_⟩
    obtain ⟨e, y⟩ := y
    subst e
    rw [drop_cons (y xs q)] at p
    exact hs i x _ acc _ hA hn (by omega) p
  · have e : i = xs.length := by omega
    subst e
    rw [List.drop_length] at p
    exact .inl ⟨⟨xs, q, Nat.le_refl _⟩, hd acc H hA hn p⟩
theorem comp_tup {K : PySem.W.Frag} {a : Addr} (xs : List V) (Pv : List V → List V → Hp → Prop) (hz : xs.length ≤ 1000000) (h0 : Pv xs [] H) (hL0 : H L = some (.lst [])) (hl : ∀ r acc H, Pv r acc H → SqT K H a xs)
    (hs : ∀ i x r acc H, H L = some (.lst acc) → acc.length ≤ i → i < 1000000 → Pv (x :: r) acc H → g x (wipe σ vs) H fun σ2 H2 => wipe σ2 vs = wipe σ vs ∧ tt σ2 H2 fun b H3 =>
      if b = true then te σ2 H3 fun y H4 => ∃ acc, H4 L = some (.lst acc) ∧ acc.length < sizeLine ∧ CNx L (i + 1) (Pv r) (upd H4 L (.lst (acc ++ [y]))) else CNx L (i + 1) (Pv r) H3)
    (hd : ∀ acc H, H L = some (.lst acc) → acc.length ≤ xs.length → Pv [] acc H → Q (.ref L) H) : CompP (Itt K a) g tt te vs σ L Q H := by
  refine ⟨fun i m H => m = xs.length - i ∧ i ≤ xs.length ∧ CNx L i (Pv (xs.drop i)) H, ⟨xs.length, by simp, Nat.zero_le _, [], hL0, Nat.le_refl _, h0⟩, ?_⟩
  rintro i m H ⟨rfl, hi, acc, hA, hn, p⟩
  have q := hl _ _ _ p
  by_cases hlt : i < xs.length
  · refine .inr ⟨⟨xs, xs[i], q, by simp [hlt]⟩, CNx L (i + 1) (Pv (xs.drop (i + 1))), fun H' p' => ⟨xs.length - (i + 1), by omega, rfl, hlt, p'⟩, fun x H' y => ?_⟩
    obtain ⟨e, y⟩ := y
    subst e
    rw [drop_cons (y xs q)] at p
    exact hs i x _ acc _ hA hn (by omega) p
  · have e : i = xs.length := by omega
    subst e
    rw [List.drop_length] at p
    exact .inl ⟨⟨xs, q, Nat.le_refl _⟩, hd acc H hA hn p⟩
theorem comp_str (cs : Tx) (Pv : Tx → List V → Hp → Prop) (hz : cs.length ≤ 1000000) (h0 : Pv cs [] H) (hL0 : H L = some (.lst []))
    (hs : ∀ i c r acc H, H L = some (.lst acc) → acc.length ≤ i → i < 1000000 → Pv (c :: r) acc H → g (.str (S [c])) (wipe σ vs) H fun σ2 H2 => wipe σ2 vs = wipe σ vs ∧ tt σ2 H2 fun b H3 =>
      if b = true then te σ2 H3 fun y H4 => ∃ acc, H4 L = some (.lst acc) ∧ acc.length < sizeLine ∧ CNx L (i + 1) (Pv r) (upd H4 L (.lst (acc ++ [y]))) else CNx L (i + 1) (Pv r) H3)
    (hd : ∀ acc H, H L = some (.lst acc) → acc.length ≤ cs.length → Pv [] acc H → Q (.ref L) H) : CompP (Its (S cs)) g tt te vs σ L Q H := by
  refine ⟨fun i m H => m = cs.length - i ∧ i ≤ cs.length ∧ CNx L i (Pv (cs.drop i)) H, ⟨cs.length, by simp, Nat.zero_le _, [], hL0, Nat.le_refl _, h0⟩, ?_⟩
  rintro i m H ⟨rfl, hi, acc, hA, hn, p⟩
  have sz : (S cs).cps.size = cs.length := by simp
  by_cases hlt : i < cs.length
  · refine .inr ⟨by show i < (S cs).cps.size; omega, CNx L (i + 1) (Pv (cs.drop (i + 1))), fun H' p' => ⟨cs.length - (i + 1), by omega, rfl, hlt, p'⟩, fun x H' y => ?_⟩
    obtain ⟨e, c, e2, e3⟩ := y
    subst e e3
    have e4 : cs[i]? = some c := by
      rw [← e2]
      simp
    rw [drop_cons e4] at p
    exact hs i c _ acc _ hA hn (by omega) p
  · have e : i = cs.length := by omega
    subst e
    rw [List.drop_length] at p
    exact .inl ⟨by show (S cs).cps.size ≤ _; omega, hd acc H hA hn p⟩
theorem comp_range {n : Nat} (Pv : Nat → List V → Hp → Prop) (hz : n ≤ 1000000) (h0 : Pv 0 [] H) (hL0 : H L = some (.lst []))
    (hs : ∀ i acc H, i < n → H L = some (.lst acc) → acc.length ≤ i → i < 1000000 → Pv i acc H → g (.int i) (wipe σ vs) H fun σ2 H2 => wipe σ2 vs = wipe σ vs ∧ tt σ2 H2 fun b H3 =>
      if b = true then te σ2 H3 fun y H4 => ∃ acc, H4 L = some (.lst acc) ∧ acc.length < sizeLine ∧ CNx L (i + 1) (Pv (i + 1)) (upd H4 L (.lst (acc ++ [y]))) else CNx L (i + 1) (Pv (i + 1)) H3)
    (hd : ∀ acc H, H L = some (.lst acc) → acc.length ≤ n → Pv n acc H → Q (.ref L) H) : CompP (Itr 0 n) g tt te vs σ L Q H := by
  refine ⟨fun i m H => m = n - i ∧ i ≤ n ∧ CNx L i (Pv i) H, ⟨n, by simp, Nat.zero_le _, [], hL0, Nat.le_refl _, h0⟩, ?_⟩
  rintro i m H ⟨rfl, hi, acc, hA, hn, p⟩
  by_cases hlt : i < n
  · refine .inr ⟨hlt, CNx L (i + 1) (Pv (i + 1)), fun H' p' => ⟨n - (i + 1), by omega, rfl, hlt, p'⟩, fun x H' y => ?_⟩
    obtain ⟨e, e2⟩ := y
    subst e e2
    have e0 : (0 : Int) + (i : Int) = (i : Int) := Int.zero_add _
    rw [e0]
    exact hs i acc _ hlt hA hn (by omega) p
  · have e : i = n := by omega
    subst e
    exact .inl ⟨Nat.le_refl _, hd acc H hA hn p⟩
/-- a comprehension over a range whose element draws: each item as P says -/
theorem comp_draw {n j : Nat} {b : Addr} {G : Hp} (P : V → Hp → Prop) (mono : ∀ v G G', KT G G' → P v G → P v G') (hz : n ≤ 1000000) (B : Bx b G H) (hL : H L = none)
    (hw : ∀ x, wipe ((wipe σ vs).set j (some x)) vs = wipe σ vs)
    (hs : ∀ (i : Nat) G' H' (Q' : VK), i < n → Same G G' → Bx b G' H' → (∀ v G2 H2, Same G' G2 → Bx b G2 H2 → P v G2 → Q' v H2) → te ((wipe σ vs).set j (some (.int i))) H' Q')
    (hd : ∀ acc G' H', Same G G' → Bx b G' H' → G' L = some (.lst acc) → acc.length = n → (∀ v ∈ acc, P v G') → Q (.ref L) H') : CompP (Itr 0 n) (gName j) tYes te vs σ L Q (upd H L (.lst [])) := by
  have B0 := B.alloc (o := .lst []) hL
  have gl : G L = none := B.ex.free hL
  refine comp_range (fun i acc H' => acc.length = i ∧ ∃ G', Same G G' ∧ Bx b G' H' ∧ G' L = some (.lst acc) ∧ ∀ v ∈ acc, P v G') hz ⟨rfl, _, same_new gl, B0, upd_same, fun _ h => nomatch h⟩ upd_same ?_ ?_
  · rintro i acc H' hi hA hn hi2 ⟨hlen, G', s1, B1, hl, hp⟩
    show _ ∧ te _ _ _
    refine ⟨hw _, hs i G' H' _ hi s1 B1 fun v G2 H2 s2 B2 pv => ?_⟩
    have hl2 := s2 _ _ hl
    refine cput (B2.ex _ _ hl2) hn hi2 ⟨by rw [List.length_append, List.length_singleton, hlen], _, same_mut (s1.trans s2) gl, B2.put hl2, upd_same, fun u hu => ?_⟩
    have kt : KT G2 (upd G2 L (.lst (acc ++ [v]))) := KT.put hl2 (by intro xs q; cases q) (by intro o xs q; cases q)
    rcases List.mem_append.mp hu with h | h
    · exact mono _ _ _ kt (mono _ _ _ (KT.of s2) (hp u h))
    · rw [List.mem_singleton.mp h]
      exact mono _ _ _ kt pv
  · rintro acc H' hA hn ⟨hlen, G', s1, B1, hl, hp⟩
    exact hd acc G' H' s1 B1 hl hlen hp
/-- while, by a number that falls -/
theorem loop_while {c : TT} (Pv : Nat → L2.St → Hp → Prop) (m0 : Nat) (h0 : Pv m0 σ H)
    (hs : ∀ m σ H, Pv m σ H → c σ H fun b H1 => if b = true then ∃ m', m' < m ∧ tb { D with nx := Pv m', ct := Pv m', bk := D.nx } σ H1 else D.nx σ H1)
    (mono : ∀ σ H Q Q', (∀ b H1, Q b H1 → Q' b H1) → c σ H Q → c σ H Q') : tWhile c tb D σ H := by
  refine ⟨Pv, ⟨m0, h0⟩, fun m σ H p => ?_⟩
  refine mono σ H _ _ (fun b H1 q => ?_) (hs m σ H p)
  cases b with
  | true =>
    obtain ⟨m', l, q⟩ := q
    exact ⟨Pv m', fun σ' H' p' => ⟨m', l, p'⟩, q⟩
  | false => exact q
end
/-! ### tests whose answer is known -/
theorem vT {A B : Prop} (h : A) : ∃ c, V.bl true = V.bl c ∧ if c = true then A else B := ⟨true, rfl, by rw [if_pos rfl]; exact h⟩
theorem vF {A B : Prop} (h : B) : ∃ c, V.bl false = V.bl c ∧ if c = true then A else B := ⟨false, rfl, by rw [if_neg (fun z => nomatch z)]; exact h⟩
theorem nT {A B : Prop} (h : B) : ∃ c, V.bl true = V.bl c ∧ if c = false then A else B := ⟨true, rfl, by rw [if_neg (fun z => nomatch z)]; exact h⟩
theorem nF {A B : Prop} (h : A) : ∃ c, V.bl false = V.bl c ∧ if c = false then A else B := ⟨false, rfl, by rw [if_pos rfl]; exact h⟩
theorem start1_3 {a b c : Str} {u : V} : L2.start [a, b, c] [u] = [some u, none, none] := rfl
/-! ### slices -/
def cutL {α : Type} (l : List α) (lo hi : Option Int) : List α := (l.drop (HT.sIx l.length 0 lo)).take (HT.sIx l.length l.length hi - HT.sIx l.length 0 lo)
theorem cutS_S (l : Tx) (lo hi : Option Int) : cutS (S l) lo hi = S (cutL l lo hi) := by
  unfold cutS cutL
  rw [S_len]
theorem cutV_L (l : List V) (lo hi : Option Int) : cutV l lo hi = cutL l lo hi := rfl
theorem cutL_from {α : Type} (l : List α) (k : Nat) : cutL l (some (k : Int)) none = l.drop k := by
  unfold cutL
  rw [HT.sIx_nat, HT.sIx_none]
  by_cases h : k ≤ l.length
  · rw [Nat.min_eq_left h, List.take_of_length_le (by rw [List.length_drop]; omega)]
  · rw [Nat.min_eq_right (by omega), List.drop_length, List.drop_of_length_le (by omega), List.take_nil]
theorem cutL_to {α : Type} (l : List α) (k : Nat) : cutL l none (some (k : Int)) = l.take k := by
  unfold cutL
  rw [HT.sIx_nat, HT.sIx_none, List.drop_zero, Nat.sub_zero]
  by_cases h : k ≤ l.length
  · rw [Nat.min_eq_left h]
  · rw [Nat.min_eq_right (by omega), List.take_length, List.take_of_length_le (by omega)]
theorem cutL_mid {α : Type} (l : List α) (i j : Nat) : cutL l (some (i : Int)) (some (j : Int)) = (l.take j).drop i := by
  unfold cutL
  rw [HT.sIx_nat, HT.sIx_nat, List.drop_take]
  by_cases h : i ≤ l.length
  · rw [Nat.min_eq_left h]
    by_cases h2 : j ≤ l.length
    · rw [Nat.min_eq_left h2]
    · rw [Nat.min_eq_right (by omega), List.take_of_length_le (by rw [List.length_drop]; omega), List.take_of_length_le (by rw [List.length_drop]; omega)]
  · rw [Nat.min_eq_right (by omega : l.length ≤ i), List.drop_length, List.drop_of_length_le (by omega : l.length ≤ i)]
    simp
theorem sIx_neg {n d : Nat} {v : Int} (h : v < 0) : HT.sIx n d (some v) = (v + (n : Int)).toNat := by
  show (if v < 0 then _ else _) = _
  rw [if_pos h]
/-- l[:-1] -/
theorem cutL_init {α : Type} (l : List α) : cutL l none (some (-1)) = l.dropLast := by
  unfold cutL
  rw [sIx_neg (by decide), HT.sIx_none, List.drop_zero, Nat.sub_zero, List.dropLast_eq_take]
  congr 1
  omega
/-- l[-1:] -/
theorem cutL_last {α : Type} (l : List α) : cutL l (some (-1)) none = l.drop (l.length - 1) := by
  unfold cutL
  rw [sIx_neg (by decide), HT.sIx_none]
  have e : (-1 + (l.length : Int)).toNat = l.length - 1 := by omega
  rw [e, List.take_of_length_le (by rw [List.length_drop]; omega)]
/-- l[1:-1] -/
theorem cutL_in {α : Type} (l : List α) : cutL l (some 1) (some (-1)) = (l.drop 1).dropLast := by
  unfold cutL
  have e1 : HT.sIx l.length 0 (some 1) = min 1 l.length := HT.sIx_nat _ _ 1
  rw [sIx_neg (by decide), e1, List.dropLast_eq_take, List.length_drop]
  have e : (-1 + (l.length : Int)).toNat = l.length - 1 := by omega
  rw [e]
  cases l with
  | nil => rfl
  | cons a r =>
    have e2 : min 1 (a :: r).length = 1 := by rw [List.length_cons]; omega
    rw [e2]
theorem atI_neg {α : Type} (l : List α) (k : Nat) (h0 : 0 < k) (h : k ≤ l.length) : atI l (-(k : Int)) = l[l.length - k]? := by
  unfold atI ixN
  rw [if_neg (by omega), if_pos (by omega)]
  show l[(-(k : Int) + (l.length : Int)).toNat]? = _
  have e : (-(k : Int) + (l.length : Int)).toNat = l.length - k := by omega
  rw [e]
/-- while, by a number that falls, the test told -/
theorem loop_whileP {c : TT} {tb : TS} {D : Ends} {σ : L2.St} {H : Hp} (Pv : Nat → L2.St → Hp → Prop) (m0 : Nat) (h0 : Pv m0 σ H)
    (hs : ∀ m σ H, Pv m σ H → ∃ b, (∀ R : Bool → Hp → Prop, R b H → c σ H R) ∧ if b = true then ∃ m', m' < m ∧ tb { D with nx := Pv m', ct := Pv m', bk := D.nx } σ H else D.nx σ H) : tWhile c tb D σ H := by
  refine ⟨Pv, ⟨m0, h0⟩, fun m σ H p => ?_⟩
  obtain ⟨b, hb, q⟩ := hs m σ H p
  refine hb _ ?_
  cases b with
  | true =>
    obtain ⟨m', l, q⟩ := q
    exact ⟨Pv m', fun σ' H' p' => ⟨m', l, p'⟩, q⟩
  | false => exact q
theorem start2_3 {a b c : Str} {u v : V} : L2.start [a, b, c] [u, v] = [some u, some v, none] := rfl
theorem start1_8 {a b c d e f g h : Str} {u : V} : L2.start [a, b, c, d, e, f, g, h] [u] = [some u, none, none, none, none, none, none, none] := rfl
/-! ### the draws -/
abbrev s_l_take : Stmt := (top 4)
theorem sc_l_take : FnScope ["_law_box", "_law_many", "_law_number"] ["_law_box", "_law_many"] (defScope s_l_take) := ⟨rfl, rfl, rfl, by decide +kernel, rfl, by decide +kernel, by decide +kernel⟩

def sp_take : Sp := fun vs H Q _ => ∃ (b : Addr) (n : Int) (G : Hp), vs = [.ref b, .int n] ∧ 0 < n ∧ n < 1073741824 ∧ Bx b G H ∧ ∀ (r : Nat) H', (r : Int) < n → Bx b G H' → Q (.int r) H'
theorem ok_take {P : Program} {w : World} {K : PySem.W.Frag} {mg : Str → Option Value} {base : Heap} {f : Addr} {fd : FuncData} (F : FunS K "_law_take" s_l_take f fd) : FnOk P w K mg base CX0 1 f fd ["_law_box", "_law_many"] sp_take := by
  refine F.ok sc_l_take (fun vs H Q E h => ?_) (fun cdv A outer s H vs Q E hr h => ?_)
  · obtain ⟨b, n, G, rfl, _⟩ := h
    rfl
  obtain ⟨b, n, G, rfl, h0, h1, B, k'⟩ := h
  have k : ∀ (r : Int) H', 0 ≤ r → r < n → Bx b G H' → Q (.int r) H' := fun r H' h2 h3 B' => by
    have q := k' r.toNat H' (by omega) B'
    rw [Int.toNat_of_nonneg h2] at q
    exact q
  refine ⟨_, PSs.nox (pss_cons (ps_if (pt_cmpR (op_eqD hr.units) (pe_ix ix_list (pv 0) pe_int (fun _ _ => rfl)) (pe_lst pa_nil) (nomark _))
    (pss_cons (ps_asg (pe_op op_mod (pe_op op_mul (pe_ix ix_list (pv 0) pe_int (fun _ _ => rfl)) pe_int) pe_int) (pg_sub (pv 0) pe_int set_list))
  (pss_one (ps_ret (pe_op op_mod (pe_op op_fdiv (pe_ix ix_list (pv 0) pe_int (fun _ _ => rfl)) pe_int) (pv 1)))))
    pss_nil)
  (pss_cons (ps_set (i := 2) sc_l_take.nd rfl (.inl rfl) (pe_ix ix_list (pe_ix ix_list (pv 0) pe_int (fun _ _ => rfl)) pe_int (fun _ _ => rfl)))
  (pss_cons (ps_asg (pe_op op_fdivN (pv 2) (pv 1)) (pg_sub (pe_ix ix_list (pv 0) pe_int (fun _ _ => rfl)) pe_int set_list))
  (pss_cons (ps_if (PW.pt (pw_or (pt_cmpR op_eq (pe_ix ix_list (pe_ix ix_list (pv 0) pe_int (fun _ _ => rfl)) pe_int (fun _ _ => rfl)) pe_int (nomark _)) (pw_or1 (pt_cmpR op_eq (pe_ix ix_list (pe_ix ix_list (pv 0) pe_int (fun _ _ => rfl)) pe_int (fun _ _ => rfl)) (pe_un un_neg pe_int) (nomark _)))))
    (pss_one (ps_expr (pe_bm PySem.F.plainAttrs_list PySem.F.slot_list_pop PySem.F.type_list_pop mt_popAt (pe_ix ix_list (pv 0) pe_int (fun _ _ => rfl)) (pa_cons pe_int pa_nil))))
    pss_nil)
  (pss_one (ps_ret (pe_op op_mod (pv 2) (pv 1)))))))), ?_⟩
  obtain ⟨sm, gb, l, ns, s, gl, hb, hl, s0, s1⟩ := B
  simp only [tSeq, tAsg, tAnd, tOr, tNot, tTest, tB, tOp, tUn, tCB, tCons, tNil, tVar, tC, gName, rI0, rI, rU, rEq, rNe, rIxS, rIxL, rIxT, tRet, tRetN, tTup, tLst, tSl, tPart, tNoPart, rSlS, tIf, tIfS, tNext, tDrop, tCall, tBM, tBM0, tAndV, tOrV, tNotV, tM0, tM1, gSub, rSetL, tMeth, tMake, tFld, tChain, tIsN, tNotN,
  List.set_cons_zero, List.set_cons_succ, exists_eq_left', exists_eq_left, exists_eq, V.int.injEq, V.str.injEq, V.bl.injEq, V.ref.injEq, List.cons.injEq, and_true, true_and, List.getElem?_cons_zero, List.getElem?_cons_succ, Option.some.injEq, List.append_nil, exists_and_left, cxOf_K, false_and, and_false, exists_false, false_or, or_false, exists_eq', exists_const, sg_eq, S_eq, tFor_eq, tLc_eq, iList_eq, iTup_eq, iRng1_eq, iStr_eq, decide_eq_true_eq, Bool.not_eq_true', decide_eq_false_iff_not, if_true, if_false, Bool.false_eq_true, reduceCtorEq, Bool.true_eq_false, decide_true, decide_false, start2]
  have nlb : l ≠ b := ne_of hl hb (by
    intro q
    cases ns with
    | nil => cases q
    | cons n r => cases q)
  refine ⟨_, sq_of hb, _, rfl, Nat.zero_le _, ?_⟩
  (intro p np; generalize hqp : upd H p _ = H1; obtain ⟨e1, hp⟩ := al_ np hqp; clear hqp)
  have hb1 := e1 _ _ hb
  have hl1 := e1 _ _ hl
  refine ⟨_, _, .lst (sq_of hl1) (dp_ints ns), .lst (sq_of hp) .nil, shaped_ints ns, rfl, _, rfl, ?_⟩
  rw [eqv_nil]
  cases ns with
  | nil =>
    simp only [List.map_nil, List.isEmpty_nil, if_true]
    refine ⟨_, sq_of hb1, _, rfl, _, rfl, .inl ⟨by omega, by omega⟩, by decide, _, hb1, _, rfl, _, sq_of upd_same, _, rfl, _, rfl, ⟨by decide, by decide⟩, h0, ?_⟩
    refine k _ _ (Int.emod_nonneg _ (by omega)) (Int.emod_lt_of_pos _ h0) ⟨fun a u e => ?_, gb, l, [], _, gl, upd_same, ?_, Int.emod_nonneg _ (by decide), Int.emod_lt_of_pos _ (by decide)⟩
    · rw [upd_ne (ne_of_none e gb)]
      exact e1 _ _ (sm _ _ e)
    · rw [upd_ne nlb]
      exact hl1
  | cons z r =>
    simp only [List.map_cons, List.isEmpty_cons, Bool.false_eq_true, if_false] at hl1 ⊢
    refine ⟨_, sq_of hb1, _, rfl, _, rfl, _, sq_of hl1, _, at0 _ _, _, rfl, ⟨by omega, by omega⟩, ?_⟩
    refine ⟨_, sq_of hb1, _, rfl, _, rfl, _, hl1, _, ix0 _, ?_⟩
    have hb2 : upd H1 l (.lst (V.int (z.fdiv n) :: List.map V.int r)) b = some (.lst [.ref l, .int s]) := by
      rw [upd_ne nlb.symm]
      exact hb1
    have fr : ∀ (xs : List V) a u, G a = some u → upd H1 l (.lst xs) a = some u := fun xs a u e => by
      rw [upd_ne (ne_of_none e gl)]
      exact e1 _ _ (sm _ _ e)
    have fin : ∀ (ms : List Int) (H' : Hp), H' = upd H1 l (.lst (ms.map V.int)) → Q (.int (z % n)) H' := fun ms H' e => by
      subst e
      refine k _ _ (Int.emod_nonneg _ (by omega)) (Int.emod_lt_of_pos _ h0) ⟨fr _, gb, l, ms, s, gl, ?_, upd_same, s0, s1⟩
      rw [upd_ne nlb.symm]
      exact hb1
    refine ⟨_, sq_of hb2, _, rfl, _, rfl, _, sq_of upd_same, _, at0 _ _, rfl, ?_⟩
    simp only [List.set_cons_zero]
    refine ite2 (fun hz => ?_) (fun hz => ?_)
    · refine ⟨_, sq_of hb2, _, rfl, .inl ⟨rfl, _, sq_of upd_same⟩, l, _, 0, 0, _, rfl, rfl, upd_same, by decide, by decide, ?_, rfl, _, rfl, h0, fin r _ ?_⟩
      · simp [seqIndex?]
      · rw [upd_upd]
        rfl
    · refine ⟨_, sq_of hb2, _, rfl, _, rfl, _, sq_of upd_same, _, at0 _ _, rfl, ?_⟩
      refine ite2 (fun hz => ?_) (fun hz => ?_)
      · refine ⟨_, sq_of hb2, _, rfl, .inl ⟨rfl, _, sq_of upd_same⟩, l, _, 0, 0, _, rfl, rfl, upd_same, by decide, by decide, ?_, rfl, _, rfl, h0, fin r _ ?_⟩
        · simp [seqIndex?]
        · rw [upd_upd]
          rfl
      · exact ⟨_, rfl, h0, fin (z.fdiv n :: r) _ rfl⟩
theorem take_ {b : Addr} {n : Int} {G H : Hp} {Q : VK} {E : XK} (B : Bx b G H) (h0 : 0 < n) (h1 : n < 1073741824) (k : ∀ (r : Nat) H', (r : Int) < n → Bx b G H' → Q (.int r) H') : sp_take [.ref b, .int n] H Q E := ⟨b, n, G, rfl, h0, h1, B, k⟩
/-- "..".join(["signs"[take(box, m)] for k in range(n)]): the list of signs -/
theorem signs_draw {n j : Nat} {b : Addr} {G H : Hp} {te : TE} {vs : List Nat} {σ : L2.St} {L : Addr} {Q : VK} (p : Nat → Prop) (hz : n ≤ 1000000) (B : Bx b G H) (hL : H L = none)
    (hw : ∀ x, wipe ((wipe σ vs).set j (some x)) vs = wipe σ vs)
    (hs : ∀ (i : Nat) G' H' (Q' : VK), i < n → Same G G' → Bx b G' H' → (∀ c G2 H2, Same G' G2 → Bx b G2 H2 → p c → Q' (.str (S [c])) H2) → te ((wipe σ vs).set j (some (.int i))) H' Q')
    (hd : ∀ (cs : Tx) G' H', Same G G' → Bx b G' H' → G' L = some (.lst ((cs.map fun c => S [c]).map V.str)) → cs.length = n → (∀ c ∈ cs, p c) → Q (.ref L) H') : CompP (Itr 0 n) (gName j) tYes te vs σ L Q (upd H L (.lst [])) := by
  refine comp_draw (fun v _ => ∃ c, p c ∧ v = .str (S [c])) (fun _ _ _ _ h => h) hz B hL hw (fun i G' H' Q' hi s1 B1 q => hs i G' H' Q' hi s1 B1 fun c G2 H2 s2 B2 pc => q _ G2 H2 s2 B2 ⟨c, pc, rfl⟩) ?_
  intro acc G' H' s1 B1 hl hlen hp
  obtain ⟨cs, e, hc⟩ : ∃ cs : Tx, acc = (cs.map fun c => S [c]).map V.str ∧ ∀ c ∈ cs, p c := by
    clear hl hlen
    induction acc with
    | nil => exact ⟨[], rfl, fun _ h => nomatch h⟩
    | cons v r ih =>
      obtain ⟨cs, e, hc⟩ := ih fun v hv => hp v (List.mem_cons_of_mem _ hv)
      obtain ⟨c, pc, ev⟩ := hp v List.mem_cons_self
      refine ⟨c :: cs, by rw [e, ev]; rfl, fun d hd => ?_⟩
      rcases List.mem_cons.mp hd with h | h
      · rw [h]
        exact pc
      · exact hc d h
  subst e
  exact hd cs G' H' s1 B1 hl (by simpa using hlen) hc
theorem join_signs (cs : Tx) : Txt.join (S []) (cs.map fun c => S [c]) = S cs := by
  have e : (cs.map fun c => S [c]) = (cs.map fun c => [c]).map SX.S := by rw [List.map_map]; rfl
  rw [e]
  refine (SX.join_S [] _).trans (congrArg SX.S ?_)
  have h : ∀ (a : Tx), TL.joinL [] (a.map fun c => [c]) = a := fun a => by
    induction a with
    | nil => rfl
    | cons x r ih =>
      cases r with
      | nil => rfl
      | cons y t =>
        show [x] ++ ([] ++ TL.joinL [] ((y :: t).map fun c => [c])) = x :: y :: t
        rw [ih]
        rfl
  exact h cs
theorem signs_size (cs : Tx) (h : cs.length ≤ 1000000) : ((cs.map fun c => S [c]).map (·.length)).sum + (cs.map fun c => S [c]).length * (S []).length ≤ 16777216 := by
  have e : ((cs.map fun c => S [c]).map (·.length)).sum = cs.length := by
    clear h
    induction cs with
    | nil => rfl
    | cons c r ih =>
      rw [List.map_cons, List.map_cons, List.sum_cons, ih, S_len, List.length_cons]
      simp only [List.length_cons, List.length_nil]
      omega
  rw [e, S_len]
  simp only [List.length_nil, Nat.mul_zero, Nat.add_zero]
  omega
/-! ### two values that are alike: asked of the same data alone -/
def okD : Nat → PyData → Prop
  | 0, _ => False
  | _ + 1, .none => True
  | _ + 1, .bool _ => True
  | _ + 1, .int _ => True
  | _ + 1, .str _ => True
  | n + 1, .list ds => ds.length ≤ 100000 ∧ ∀ d ∈ ds, okD n d
  | n + 1, .tuple ds => ds.length ≤ 100000 ∧ ∀ d ∈ ds, okD n d
  | _ + 1, .dict _ => False
def tyD : PyData → String
  | .none => "NoneType"
  | .bool _ => "bool"
  | .int _ => "int"
  | .str _ => "str"
  | .list _ => "list"
  | .tuple _ => "tuple"
  | .dict _ => "dict"
theorem ty_seq {K : PySem.W.Frag} {H : Hp} {a : Addr} {xs : List V} (h : SqL K H a xs) : TyX K H (.ref a) (.type "list") := by
  rcases h with (h | ⟨o, h⟩) | ⟨o, its, n, h, c, _⟩
  · exact .base (.lst h)
  · exact .base (.frz h)
  · exact .kList h c
theorem ty_tup {K : PySem.W.Frag} {H : Hp} {a : Addr} {xs : List V} (h : SqT K H a xs) : TyX K H (.ref a) (.type "tuple") := by
  rcases h with (h | ⟨o, h⟩) | ⟨o, its, n, h, c, _⟩
  · exact .base (.tup h)
  · exact .fTuple h
  · exact .kTuple h c
theorem ty_dp {K : PySem.W.Frag} {H : Hp} {v : V} {d : PyData} (h : Dp K H v d) : TyX K H v (.type (tyD d)) := by
  cases h with
  | non => exact .base .non
  | bl b => exact .base (.bl b)
  | int i => exact .base (.int i)
  | str x => exact .base (.str x)
  | lst h _ => exact ty_seq h
  | tup h _ => exact ty_tup h
/-- isinstance of such a value and a built-in class -/
theorem isi {K : PySem.W.Frag} {H : Hp} {v : V} {d : PyData} {n : String} {b : Bool} {Q : VK} (h : Dp K H v d) (e : kitB (tyD d) n = some b) (q : Q (.bl b) H) : rIsi K [v, .ty n] H Q :=
  ⟨v, .ty n, _, _, b, rfl, .ty n, ty_dp h, kit_ty e, q⟩
def sp_alike (K : PySem.W.Frag) (n : Nat) : Sp := fun vs H Q _ => ∃ (v u : V) (d : PyData), vs = [v, u] ∧ Dp K H v d ∧ Dp K H u d ∧ okD n d ∧ Q (.bl true) H
abbrev s_l_alike : Stmt := (top 5)
theorem sc_l_alike : FnScope ["_law_found", "_law_due", "_law_k"] ["_law_found", "_law_due"] (defScope s_l_alike) := ⟨rfl, rfl, rfl, by decide +kernel, rfl, by decide +kernel, by decide +kernel⟩

section
variable {P : Program} {w : World} {K : PySem.W.Frag} {mg : Str → Option Value} {base : Heap}
theorem kb1 : kitB "bool" "bool" = some true := by decide +kernel
theorem kb2 : kitB "int" "bool" = some false := by decide +kernel
theorem kb3 : kitB "str" "bool" = some false := by decide +kernel
theorem kb4 : kitB "list" "bool" = some false := by decide +kernel
theorem kb5 : kitB "tuple" "bool" = some false := by decide +kernel
theorem ki2 : kitB "int" "int" = some true := by decide +kernel
theorem ki3 : kitB "str" "int" = some false := by decide +kernel
theorem ki4 : kitB "list" "int" = some false := by decide +kernel
theorem ki5 : kitB "tuple" "int" = some false := by decide +kernel
theorem ks3 : kitB "str" "str" = some true := by decide +kernel
theorem ks4 : kitB "list" "str" = some false := by decide +kernel
theorem ks5 : kitB "tuple" "str" = some false := by decide +kernel
theorem kt4 : kitB "list" "tuple" = some false := by decide +kernel
theorem kt5 : kitB "tuple" "tuple" = some true := by decide +kernel
theorem kl4 : kitB "list" "list" = some true := by decide +kernel
theorem kl5 : kitB "tuple" "list" = some false := by decide +kernel
theorem ok_alike_step {f : Addr} {fd : FuncData} {n : Nat} (F : FunS K "_law_alike" s_l_alike f fd) (b_bool : mg "bool" = none) (b_int : mg "int" = none) (b_isinstance : mg "isinstance" = none) (b_len : mg "len" = none) (b_list : mg "list" = none) (b_range : mg "range" = none) (b_str : mg "str" = none) (b_tuple : mg "tuple" = none) (c_l_alike : Cal P w K mg base CX0 n "_law_alike" (sp_alike K n)) : FnOk P w K mg base CX0 (n + 1) f fd ["_law_found", "_law_due"] (sp_alike K (n + 1)) := by
  refine F.ok sc_l_alike (fun vs H Q E h => ?_) (fun cdv A outer s H vs Q E hr h => ?_)
  · obtain ⟨v, u, d, rfl, _⟩ := h
    rfl
  obtain ⟨v, u, d, rfl, h1, h2, ok, k⟩ := h
  refine ⟨_, PSs.nox (pss_cons (ps_if (pt_cmpR op_isN (pv 1) pe_non (nomark _))
    (pss_one (ps_ret (pe_cmpR op_isN (pv 0) pe_non (nomark _))))
    pss_nil)
  (pss_cons (ps_if (pt_val (pe_callB call_isi (by rfl) b_isinstance (by decide +kernel) (pa_cons (pv 1) (pa_cons (pe_bltn (v := .ty "bool") (by rfl) b_bool (by decide +kernel) rfl) pa_nil))))
    (pss_one (ps_ret (pe_and (pe_callB call_isi (by rfl) b_isinstance (by decide +kernel) (pa_cons (pv 0) (pa_cons (pe_bltn (v := .ty "bool") (by rfl) b_bool (by decide +kernel) rfl) pa_nil))) (pe_one (pe_cmpR op_eq (pv 0) (pv 1) (nomark _))))))
    pss_nil)
  (pss_cons (ps_if (pt_val (pe_callB call_isi (by rfl) b_isinstance (by decide +kernel) (pa_cons (pv 1) (pa_cons (pe_bltn (v := .ty "int") (by rfl) b_int (by decide +kernel) rfl) pa_nil))))
    (pss_one (ps_ret (pe_and (pe_callB call_isi (by rfl) b_isinstance (by decide +kernel) (pa_cons (pv 0) (pa_cons (pe_bltn (v := .ty "int") (by rfl) b_int (by decide +kernel) rfl) pa_nil))) (pe_and (pe_not (pe_callB call_isi (by rfl) b_isinstance (by decide +kernel) (pa_cons (pv 0) (pa_cons (pe_bltn (v := .ty "bool") (by rfl) b_bool (by decide +kernel) rfl) pa_nil)))) (pe_one (pe_cmpR op_eq (pv 0) (pv 1) (nomark _)))))))
    pss_nil)
  (pss_cons (ps_if (pt_val (pe_callB call_isi (by rfl) b_isinstance (by decide +kernel) (pa_cons (pv 1) (pa_cons (pe_bltn (v := .ty "str") (by rfl) b_str (by decide +kernel) rfl) pa_nil))))
    (pss_one (ps_ret (pe_and (pe_callB call_isi (by rfl) b_isinstance (by decide +kernel) (pa_cons (pv 0) (pa_cons (pe_bltn (v := .ty "str") (by rfl) b_str (by decide +kernel) rfl) pa_nil))) (pe_one (pe_cmpR op_eq (pv 0) (pv 1) (nomark _))))))
    pss_nil)
  (pss_cons (ps_if (PW.pt (pw_or (pt_cmpR op_ne (pe_callB call_isi (by rfl) b_isinstance (by decide +kernel) (pa_cons (pv 1) (pa_cons (pe_bltn (v := .ty "tuple") (by rfl) b_tuple (by decide +kernel) rfl) pa_nil))) (pe_callB call_isi (by rfl) b_isinstance (by decide +kernel) (pa_cons (pv 0) (pa_cons (pe_bltn (v := .ty "tuple") (by rfl) b_tuple (by decide +kernel) rfl) pa_nil))) (nomark _)) (pw_or1 (pt_cmpR op_ne (pe_callB call_isi (by rfl) b_isinstance (by decide +kernel) (pa_cons (pv 1) (pa_cons (pe_bltn (v := .ty "list") (by rfl) b_list (by decide +kernel) rfl) pa_nil))) (pe_callB call_isi (by rfl) b_isinstance (by decide +kernel) (pa_cons (pv 0) (pa_cons (pe_bltn (v := .ty "list") (by rfl) b_list (by decide +kernel) rfl) pa_nil))) (nomark _)))))
    (pss_one (ps_ret pe_bl))
    pss_nil)
  (pss_cons (ps_if (pt_cmpR op_ne (pe_callB call_len_seq (by rfl) b_len PySem.boot_len (pa_cons (pv 0) pa_nil)) (pe_callB call_len_seq (by rfl) b_len PySem.boot_len (pa_cons (pv 1) pa_nil)) (nomark _))
    (pss_one (ps_ret pe_bl))
    pss_nil)
  (pss_cons (ps_for PassesOwn.never rfl (pi_range1 (by rfl) b_range (pa_cons (pe_callB call_len_seq (by rfl) b_len PySem.boot_len (pa_cons (pv 1) pa_nil)) pa_nil)) (pg_name (i := 2) sc_l_alike.nd rfl (.inl rfl))
    (pss_one (ps_if (pt_not (pt_val (pe_c c_l_alike hr (by first | decide | omega) (by rfl) (pa_cons (pe_ix ix_seq (pv 0) (pv 2) (fun _ _ => rfl)) (pa_cons (pe_ix ix_seq (pv 1) (pv 2) (fun _ _ => rfl)) pa_nil)))))
    (pss_one (ps_ret pe_bl))
    pss_nil)))
  (pss_one (ps_ret pe_bl))))))))), ?_⟩
  simp only [tSeq, tAsg, tAnd, tOr, tNot, tTest, tB, tOp, tUn, tCB, tCons, tNil, tVar, tC, gName, rI0, rI, rU, rEq, rNe, rIxS, rIxL, rIxT, tRet, tRetN, tTup, tLst, tSl, tPart, tNoPart, rSlS, tIf, tIfS, tNext, tDrop, tCall, tBM, tBM0, tAndV, tOrV, tNotV, tM0, tM1, gSub, rSetL, tMeth, tMake, tFld, tChain, tIsN, tNotN,
  List.set_cons_zero, List.set_cons_succ, exists_eq_left', exists_eq_left, exists_eq, V.int.injEq, V.str.injEq, V.bl.injEq, V.ref.injEq, List.cons.injEq, and_true, true_and, List.getElem?_cons_zero, List.getElem?_cons_succ, Option.some.injEq, List.append_nil, exists_and_left, cxOf_K, false_and, and_false, exists_false, false_or, or_false, exists_eq', exists_const, sg_eq, S_eq, tFor_eq, tLc_eq, iList_eq, iTup_eq, iRng1_eq, iStr_eq, decide_eq_true_eq, Bool.not_eq_true', decide_eq_false_iff_not, if_true, if_false, Bool.false_eq_true, reduceCtorEq, Bool.true_eq_false, decide_true, decide_false, start2]
  cases d with
  | none =>
    obtain rfl := dp_non h1
    obtain rfl := dp_non h2
    simp only [if_true, decide_true]
    exact k
  | bool c =>
    obtain rfl := dp_bl h1
    obtain rfl := dp_bl h2
    rw [if_neg (fun q => nomatch q)]
    refine isi h2 kb1 ?_
    refine vT ?_
    refine isi h1 kb1 ?_
    refine vT ⟨rfl, ?_⟩
    simp only [decide_true]
    exact k
  | int c =>
    obtain rfl := dp_int h1
    obtain rfl := dp_int h2
    rw [if_neg (fun q => nomatch q)]
    refine isi h2 kb2 ?_
    refine vF ?_
    refine isi h2 ki2 ?_
    refine vT ?_
    refine isi h1 ki2 ?_
    refine vT ?_
    refine isi h1 kb2 ?_
    refine nF ⟨rfl, ?_⟩
    simp only [decide_true]
    exact k
  | str c =>
    obtain rfl := dp_str h1
    obtain rfl := dp_str h2
    rw [if_neg (fun q => nomatch q)]
    refine isi h2 kb3 ?_
    refine vF ?_
    refine isi h2 ki3 ?_
    refine vF ?_
    refine isi h2 ks3 ?_
    refine vT ?_
    refine isi h1 ks3 ?_
    refine vT ⟨rfl, ?_⟩
    simp only [decide_true]
    exact k
  | dict _ => cases h1
  | list ds =>
    obtain ⟨a, xs, rfl, a1, a2⟩ := dp_lst h1
    obtain ⟨a', ys, rfl, b1, b2⟩ := dp_lst h2
    rw [if_neg (fun q => nomatch q)]
    refine isi h2 kb4 ?_
    refine vF ?_
    refine isi h2 ki4 ?_
    refine vF ?_
    refine isi h2 ks4 ?_
    refine vF ?_
    refine isi h2 kt4 ?_
    refine isi h1 kt4 ⟨rfl, ?_⟩
    rw [if_neg (fun q => q rfl)]
    refine isi h2 kl4 ?_
    refine isi h1 kl4 ⟨rfl, ?_⟩
    rw [if_neg (fun q => q rfl)]
    refine ⟨a, rfl, xs, .inl a1, a', rfl, ys, .inl b1, rfl, ?_⟩
    have el : xs.length = ys.length := (DpAll.len a2).trans (DpAll.len b2).symm
    rw [if_neg (fun q => q (by rw [el]))]
    have hz : ys.length ≤ 100000 := by
      rw [DpAll.len b2]
      exact ok.1
    refine ⟨a', rfl, ys, .inl b1, by omega, by omega, ?_⟩
    rw [Int.toNat_natCast]
    refine loop_range (n := ys.length) (fun i σ H' => (∃ z, σ = [some (.ref a), some (.ref a'), z]) ∧ H' = H) ⟨⟨_, rfl⟩, rfl⟩ ?_ ?_
    · rintro i σ H' hi ⟨⟨z, rfl⟩, rfl⟩
      have hi2 : i < ds.length := by rw [← DpAll.len b2]; exact hi
      have hd : ds[i]? = some ds[i] := List.getElem?_eq_getElem hi2
      obtain ⟨x, g1, g2⟩ := DpAll.get a2 hd
      obtain ⟨y, g3, g4⟩ := DpAll.get b2 hd
      simp only [tSeq, tAsg, tAnd, tOr, tNot, tTest, tB, tOp, tUn, tCB, tCons, tNil, tVar, tC, gName, rI0, rI, rU, rEq, rNe, rIxS, rIxL, rIxT, tRet, tRetN, tTup, tLst, tSl, tPart, tNoPart, rSlS, tIf, tIfS, tNext, tDrop, tCall, tBM, tBM0, tAndV, tOrV, tNotV, tM0, tM1, gSub, rSetL, tMeth, tMake, tFld, tChain, tIsN, tNotN,
  List.set_cons_zero, List.set_cons_succ, exists_eq_left', exists_eq_left, exists_eq, V.int.injEq, V.str.injEq, V.bl.injEq, V.ref.injEq, List.cons.injEq, and_true, true_and, List.getElem?_cons_zero, List.getElem?_cons_succ, Option.some.injEq, List.append_nil, exists_and_left, cxOf_K, false_and, and_false, exists_false, false_or, or_false, exists_eq', exists_const, sg_eq, S_eq, tFor_eq, tLc_eq, iList_eq, iTup_eq, iRng1_eq, iStr_eq, decide_eq_true_eq, Bool.not_eq_true', decide_eq_false_iff_not, if_true, if_false, Bool.false_eq_true, reduceCtorEq, Bool.true_eq_false, decide_true, decide_false]
      refine .inl ⟨a, xs, i, x, rfl, rfl, a1, atI_nat g1, .inl ⟨a', ys, i, y, rfl, rfl, b1, atI_nat g3, x, y, _, rfl, g2, g4, ok.2 _ (List.getElem_mem _), ?_⟩⟩
      exact nT rfl
    · rintro σ H' ⟨⟨z, rfl⟩, rfl⟩
      exact k
  | tuple ds =>
    obtain ⟨a, xs, rfl, a1, a2⟩ := dp_tup h1
    obtain ⟨a', ys, rfl, b1, b2⟩ := dp_tup h2
    rw [if_neg (fun q => nomatch q)]
    refine isi h2 kb5 ?_
    refine vF ?_
    refine isi h2 ki5 ?_
    refine vF ?_
    refine isi h2 ks5 ?_
    refine vF ?_
    refine isi h2 kt5 ?_
    refine isi h1 kt5 ⟨rfl, ?_⟩
    rw [if_neg (fun q => q rfl)]
    refine isi h2 kl5 ?_
    refine isi h1 kl5 ⟨rfl, ?_⟩
    rw [if_neg (fun q => q rfl)]
    refine ⟨a, rfl, xs, .inr a1, a', rfl, ys, .inr b1, rfl, ?_⟩
    have el : xs.length = ys.length := (DpAll.len a2).trans (DpAll.len b2).symm
    rw [if_neg (fun q => q (by rw [el]))]
    have hz : ys.length ≤ 100000 := by
      rw [DpAll.len b2]
      exact ok.1
    refine ⟨a', rfl, ys, .inr b1, by omega, by omega, ?_⟩
    rw [Int.toNat_natCast]
    refine loop_range (n := ys.length) (fun i σ H' => (∃ z, σ = [some (.ref a), some (.ref a'), z]) ∧ H' = H) ⟨⟨_, rfl⟩, rfl⟩ ?_ ?_
    · rintro i σ H' hi ⟨⟨z, rfl⟩, rfl⟩
      have hi2 : i < ds.length := by rw [← DpAll.len b2]; exact hi
      have hd : ds[i]? = some ds[i] := List.getElem?_eq_getElem hi2
      obtain ⟨x, g1, g2⟩ := DpAll.get a2 hd
      obtain ⟨y, g3, g4⟩ := DpAll.get b2 hd
      simp only [tSeq, tAsg, tAnd, tOr, tNot, tTest, tB, tOp, tUn, tCB, tCons, tNil, tVar, tC, gName, rI0, rI, rU, rEq, rNe, rIxS, rIxL, rIxT, tRet, tRetN, tTup, tLst, tSl, tPart, tNoPart, rSlS, tIf, tIfS, tNext, tDrop, tCall, tBM, tBM0, tAndV, tOrV, tNotV, tM0, tM1, gSub, rSetL, tMeth, tMake, tFld, tChain, tIsN, tNotN,
  List.set_cons_zero, List.set_cons_succ, exists_eq_left', exists_eq_left, exists_eq, V.int.injEq, V.str.injEq, V.bl.injEq, V.ref.injEq, List.cons.injEq, and_true, true_and, List.getElem?_cons_zero, List.getElem?_cons_succ, Option.some.injEq, List.append_nil, exists_and_left, cxOf_K, false_and, and_false, exists_false, false_or, or_false, exists_eq', exists_const, sg_eq, S_eq, tFor_eq, tLc_eq, iList_eq, iTup_eq, iRng1_eq, iStr_eq, decide_eq_true_eq, Bool.not_eq_true', decide_eq_false_iff_not, if_true, if_false, Bool.false_eq_true, reduceCtorEq, Bool.true_eq_false, decide_true, decide_false]
      refine .inr (.inl ⟨a, xs, i, x, rfl, rfl, a1, atI_nat g1, .inr (.inl ⟨a', ys, i, y, rfl, rfl, b1, atI_nat g3, x, y, _, rfl, g2, g4, ok.2 _ (List.getElem_mem _), ?_⟩)⟩)
      exact nT rfl
    · rintro σ H' ⟨⟨z, rfl⟩, rfl⟩
      exact k
theorem cal_alike {f : Addr} {fd : FuncData} (F : FunS K "_law_alike" s_l_alike f fd) (bn : Binds K fd ["_law_found", "_law_due"] []) (m : mg "_law_alike" = some (.ref f)) (b_bool : mg "bool" = none) (b_int : mg "int" = none) (b_isinstance : mg "isinstance" = none) (b_len : mg "len" = none) (b_list : mg "list" = none) (b_range : mg "range" = none) (b_str : mg "str" = none) (b_tuple : mg "tuple" = none) : ∀ n, Cal P w K mg base CX0 n "_law_alike" (sp_alike K n)
  | 0 => by
    refine ⟨f, fd, ["_law_found", "_law_due"], ⟨?_, ?_⟩, m, F.kp, bn⟩
    · rintro vs H Q E ⟨v, u, d, _, _, _, h, _⟩
      exact h.elim
    · rintro A outer s H args us vs Q E _ _ _ _ ⟨v, u, d, _, _, _, h, _⟩
      exact h.elim
  | n + 1 => ⟨f, fd, _, ok_alike_step F (b_bool := b_bool) (b_int := b_int) (b_isinstance := b_isinstance) (b_len := b_len) (b_list := b_list) (b_range := b_range) (b_str := b_str) (b_tuple := b_tuple) (cal_alike F bn m b_bool b_int b_isinstance b_len b_list b_range b_str b_tuple n), m, F.kp, bn⟩
end
abbrev s_l_begun : Stmt := (top 3)
theorem sc_l_begun : FnScope ["_law_script", "_law_stirred", "_law_cell"] ["_law_script"] (defScope s_l_begun) := ⟨rfl, rfl, rfl, by decide +kernel, rfl, by decide +kernel, by decide +kernel⟩

def sp_begun (K : PySem.W.Frag) : Sp := fun vs H Q _ => ∃ (a : Addr) (ns : List Int), vs = [.ref a] ∧ SqL K H a (ns.map V.int) ∧ ns.length ≤ 63 ∧ ∀ b G H', Same H G → Bx b G H' → Q (.ref b) H'
section
variable {P : Program} {w : World} {K : PySem.W.Frag} {mg : Str → Option Value} {base : Heap}
theorem ok_begun {f : Addr} {fd : FuncData} (F : FunS K "_law_begun" s_l_begun f fd) (b_int : mg "int" = none) (b_len : mg "len" = none) (b_list : mg "list" = none) : FnOk P w K mg base CX0 1 f fd ["_law_script"] (sp_begun K) := by
  refine F.ok sc_l_begun (fun vs H Q E h => ?_) (fun cdv A outer s H vs Q E hr h => ?_)
  · obtain ⟨a, ns, rfl, _⟩ := h
    rfl
  obtain ⟨a, ns, rfl, hS, hn, k⟩ := h
  refine ⟨_, PSs.nox (pss_cons (ps_set (i := 1) sc_l_begun.nd rfl (.inl rfl) pe_int)
  (pss_cons (ps_for PassesOwn.never rfl (pi_list (pv 0)) (pg_name (i := 2) sc_l_begun.nd rfl (.inl rfl))
    (pss_one (ps_set (i := 1) sc_l_begun.nd rfl (.inl rfl) (pe_op op_mod (pe_op op_add (pe_op op_add (pe_op op_mul (pv 1) pe_int) (pe_op op_mul (pv 2) pe_int)) pe_int) pe_int))))
  (pss_one (ps_ret (pe_lst (pa_cons (pe_callTy call_list_of (by rfl) b_list (by decide +kernel) (pa_cons (pv 0) pa_nil)) (pa_cons (pe_op op_mul (pv 1) (pe_callTy call_int1 (by rfl) b_int (by decide +kernel) (pa_cons (pe_cmpR op_gt (pe_callB call_len_seq (by rfl) b_len PySem.boot_len (pa_cons (pv 0) pa_nil)) pe_int (nomark _)) pa_nil))) pa_nil))))))), ?_⟩
  simp only [tSeq, tAsg, tAnd, tOr, tNot, tTest, tB, tOp, tUn, tCB, tCons, tNil, tVar, tC, gName, rI0, rI, rU, rEq, rNe, rIxS, rIxL, rIxT, tRet, tRetN, tTup, tLst, tSl, tPart, tNoPart, rSlS, tIf, tIfS, tNext, tDrop, tCall, tBM, tBM0, tAndV, tOrV, tNotV, tM0, tM1, gSub, rSetL, tMeth, tMake, tFld, tChain, tIsN, tNotN,
  List.set_cons_zero, List.set_cons_succ, exists_eq_left', exists_eq_left, exists_eq, V.int.injEq, V.str.injEq, V.bl.injEq, V.ref.injEq, List.cons.injEq, and_true, true_and, List.getElem?_cons_zero, List.getElem?_cons_succ, Option.some.injEq, List.append_nil, exists_and_left, cxOf_K, false_and, and_false, exists_false, false_or, or_false, exists_eq', exists_const, sg_eq, S_eq, tFor_eq, tLc_eq, iList_eq, iTup_eq, iRng1_eq, iStr_eq, decide_eq_true_eq, Bool.not_eq_true', decide_eq_false_iff_not, if_true, if_false, Bool.false_eq_true, reduceCtorEq, Bool.true_eq_false, decide_true, decide_false, start1_3]
  refine ⟨⟨_, hS⟩, loop_list (ns.map V.int) (fun r σ H' => ∃ (i : Int) (z : Option V) (ms : List Int), r = ms.map V.int ∧ σ = [some (.ref a), some (.int i), z] ∧ H' = H ∧ 0 ≤ i ∧ i < 2147483647) ⟨0, none, ns, rfl, rfl, rfl, by decide, by decide⟩ ?_ ?_ ?_⟩
  · rintro r σ H' ⟨i, z, ms, rfl, rfl, rfl, h0, h1⟩
    exact hS
  · rintro x r σ H' ⟨i, z, ms, e, rfl, rfl, h0, h1⟩
    cases ms with
    | nil => cases e
    | cons m ms =>
      simp only [List.map_cons, List.cons.injEq] at e
      obtain ⟨rfl, rfl⟩ := e
      simp only [tSeq, tAsg, tAnd, tOr, tNot, tTest, tB, tOp, tUn, tCB, tCons, tNil, tVar, tC, gName, rI0, rI, rU, rEq, rNe, rIxS, rIxL, rIxT, tRet, tRetN, tTup, tLst, tSl, tPart, tNoPart, rSlS, tIf, tIfS, tNext, tDrop, tCall, tBM, tBM0, tAndV, tOrV, tNotV, tM0, tM1, gSub, rSetL, tMeth, tMake, tFld, tChain, tIsN, tNotN,
  List.set_cons_zero, List.set_cons_succ, exists_eq_left', exists_eq_left, exists_eq, V.int.injEq, V.str.injEq, V.bl.injEq, V.ref.injEq, List.cons.injEq, and_true, true_and, List.getElem?_cons_zero, List.getElem?_cons_succ, Option.some.injEq, List.append_nil, exists_and_left, cxOf_K, false_and, and_false, exists_false, false_or, or_false, exists_eq', exists_const, sg_eq, S_eq, tFor_eq, tLc_eq, iList_eq, iTup_eq, iRng1_eq, iStr_eq, decide_eq_true_eq, Bool.not_eq_true', decide_eq_false_iff_not, if_true, if_false, Bool.false_eq_true, reduceCtorEq, Bool.true_eq_false, decide_true, decide_false]
      refine ⟨.inl ⟨by omega, by omega⟩, .inr ⟨by decide, by decide⟩, by decide, ?_⟩
      exact ⟨_, _, ms, rfl, ⟨rfl, rfl⟩, Int.emod_nonneg _ (by decide), Int.emod_lt_of_pos _ (by decide)⟩
  · rintro σ H' ⟨i, z, ms, e, rfl, rfl, h0, h1⟩
    simp only [tSeq, tAsg, tAnd, tOr, tNot, tTest, tB, tOp, tUn, tCB, tCons, tNil, tVar, tC, gName, rI0, rI, rU, rEq, rNe, rIxS, rIxL, rIxT, tRet, tRetN, tTup, tLst, tSl, tPart, tNoPart, rSlS, tIf, tIfS, tNext, tDrop, tCall, tBM, tBM0, tAndV, tOrV, tNotV, tM0, tM1, gSub, rSetL, tMeth, tMake, tFld, tChain, tIsN, tNotN,
  List.set_cons_zero, List.set_cons_succ, exists_eq_left', exists_eq_left, exists_eq, V.int.injEq, V.str.injEq, V.bl.injEq, V.ref.injEq, List.cons.injEq, and_true, true_and, List.getElem?_cons_zero, List.getElem?_cons_succ, Option.some.injEq, List.append_nil, exists_and_left, cxOf_K, false_and, and_false, exists_false, false_or, or_false, exists_eq', exists_const, sg_eq, S_eq, tFor_eq, tLc_eq, iList_eq, iTup_eq, iRng1_eq, iStr_eq, decide_eq_true_eq, Bool.not_eq_true', decide_eq_false_iff_not, if_true, if_false, Bool.false_eq_true, reduceCtorEq, Bool.true_eq_false, decide_true, decide_false]
    refine ⟨_, .inl hS, ?_⟩
    (intro l nl; generalize hql : upd H' l _ = H1; obtain ⟨e1, f1⟩ := al_ nl hql; clear hql)
    refine ⟨_, .inl (same_l e1 hS), ?_⟩
    refine ⟨.inl ⟨by omega, by omega⟩, (size_le (by simp only [List.length_cons, List.length_nil]; decide)), ?_⟩
    (intro b nb; generalize hqb : upd H1 b _ = H2; obtain ⟨e2, f2⟩ := al_ nb hqb; clear hqb)
    have nlb : l ≠ b := ne_of_none f1 nb
    refine k b H' H2 (Same.refl _) ⟨e1.trans e2, e1.free nb, l, ns, _, nl, f2, e2 _ _ f1, ?_, ?_⟩
    · split <;> omega
    · split <;> omega
end
/-! ### what is sent -/
def com : Tx → Tx → Nat
  | a :: r, b :: t => if a = b then com r t + 1 else 0
  | _, _ => 0
theorem com_app (p : Tx) : ∀ a b, com (p ++ a) (p ++ b) = p.length + com a b := by
  induction p with
  | nil => intro a b; simp
  | cons x p ih =>
    intro a b
    show (if x = x then com (p ++ a) (p ++ b) + 1 else 0) = _
    rw [if_pos rfl, ih]
    simp only [List.length_cons]
    omega
def sp_sent : Sp := fun vs H Q _ => ∃ (a b : Tx), vs = [.str (S a), .str (S b)] ∧ a.length ≤ 1000000 ∧ b.length ≤ 1000000 ∧
  ∀ p H', Same H H' → H' p = some (.tup [.int ((a.length : Int) - com a b), .str (S (b.drop (com a b)))]) → Q (.ref p) H'
abbrev s_sent : Stmt := (top 1)
theorem sc_sent : FnScope ["elder", "newer", "same"] ["elder", "newer"] (defScope s_sent) := ⟨rfl, rfl, rfl, by decide +kernel, rfl, by decide +kernel, by decide +kernel⟩

def Pv_sent (a b : Tx) (H : Hp) (m : Nat) (σ : L2.St) (H' : Hp) : Prop := ∃ p ra rb, a = p ++ ra ∧ b = p ++ rb ∧ m = ra.length ∧ σ = [some (.str (S a)), some (.str (S b)), some (.int p.length)] ∧ H' = H
section
variable {P : Program} {w : World} {K : PySem.W.Frag} {mg : Str → Option Value} {base : Heap}
theorem ok_sent {f : Addr} {fd : FuncData} (F : FunS K "sent" s_sent f fd) (b_len : mg "len" = none) : FnOk P w K mg base CX0 1 f fd ["elder", "newer"] sp_sent := by
  refine F.ok sc_sent (fun vs H Q E h => ?_) (fun cdv A outer s H vs Q E hr h => ?_)
  · obtain ⟨a, b, rfl, _⟩ := h
    rfl
  obtain ⟨a, b, rfl, ha, hb, k⟩ := h
  refine ⟨_, PSs.nox (pss_cons (ps_set (i := 2) sc_sent.nd rfl (.inl rfl) pe_int)
  (pss_cons (ps_while PassesOwn.never (PW.pt (pw_and (pt_cmpR op_lt (pv 2) (pe_callB call_len_str (by rfl) b_len PySem.boot_len (pa_cons (pv 0) pa_nil)) (nomark _)) (pw_and (pt_cmpR op_lt (pv 2) (pe_callB call_len_str (by rfl) b_len PySem.boot_len (pa_cons (pv 1) pa_nil)) (nomark _)) (pw_and1 (pt_cmpR op_eq (pe_ix ix_str (pv 0) (pv 2) (fun _ _ => rfl)) (pe_ix ix_str (pv 1) (pv 2) (fun _ _ => rfl)) (nomark _))))))
    (pss_one (ps_set (i := 2) sc_sent.nd rfl (.inl rfl) (pe_op op_add (pv 2) pe_int))))
  (pss_one (ps_ret (pe_tup (pa_cons (pe_op op_sub (pe_callB call_len_str (by rfl) b_len PySem.boot_len (pa_cons (pv 0) pa_nil)) (pv 2)) (pa_cons (pe_slice sl_str (pv 1) (po_some (pv 2)) po_none) pa_nil))))))), ?_⟩
  simp only [tSeq, tAsg, tAnd, tOr, tNot, tTest, tB, tOp, tUn, tCB, tCons, tNil, tVar, tC, gName, rI0, rI, rU, rEq, rNe, rIxS, rIxL, rIxT, tRet, tRetN, tTup, tLst, tSl, tPart, tNoPart, rSlS, tIf, tIfS, tNext, tDrop, tCall, tBM, tBM0, tAndV, tOrV, tNotV, tM0, tM1, gSub, rSetL, tMeth, tMake, tFld, tChain, tIsN, tNotN,
  List.set_cons_zero, List.set_cons_succ, exists_eq_left', exists_eq_left, exists_eq, V.int.injEq, V.str.injEq, V.bl.injEq, V.ref.injEq, List.cons.injEq, and_true, true_and, List.getElem?_cons_zero, List.getElem?_cons_succ, Option.some.injEq, List.append_nil, exists_and_left, cxOf_K, false_and, and_false, exists_false, false_or, or_false, exists_eq', exists_const, sg_eq, S_eq, tFor_eq, tLc_eq, iList_eq, iTup_eq, iRng1_eq, iStr_eq, decide_eq_true_eq, Bool.not_eq_true', decide_eq_false_iff_not, if_true, if_false, Bool.false_eq_true, reduceCtorEq, Bool.true_eq_false, decide_true, decide_false, start2_3]
  refine loop_whileP (Pv_sent a b H) a.length ⟨[], a, b, rfl, rfl, rfl, rfl, rfl⟩ ?_
  rintro m σ H' ⟨p, ra, rb, ea, eb, rfl, rfl, rfl⟩
  have la : a.length = p.length + ra.length := by rw [ea, List.length_append]
  have lb : b.length = p.length + rb.length := by rw [eb, List.length_append]
  have fin : com ra rb = 0 → tRet (tTup (tCons (tOp (rI0 fun i j => .int (i - j)) (tCB (fun xs H Q => ∃ x, xs = [.str x] ∧ x.length ≤ sizeLine ∧ Q (.int x.length) H) (tCons (tVar 0) tNil)) (tVar 2)) (tCons (tSl rSlS (tVar 1) (tPart (tVar 2)) tNoPart) tNil))) { nx := fun _ H' => Q .non H', rt := Q } [some (.str (S a)), some (.str (S b)), some (.int p.length)] H' := fun e => by
    have ec : com a b = p.length := by rw [ea, eb, com_app, e, Nat.add_zero]
    simp only [tSeq, tAsg, tAnd, tOr, tNot, tTest, tB, tOp, tUn, tCB, tCons, tNil, tVar, tC, gName, rI0, rI, rU, rEq, rNe, rIxS, rIxL, rIxT, tRet, tRetN, tTup, tLst, tSl, tPart, tNoPart, rSlS, tIf, tIfS, tNext, tDrop, tCall, tBM, tBM0, tAndV, tOrV, tNotV, tM0, tM1, gSub, rSetL, tMeth, tMake, tFld, tChain, tIsN, tNotN,
  List.set_cons_zero, List.set_cons_succ, exists_eq_left', exists_eq_left, exists_eq, V.int.injEq, V.str.injEq, V.bl.injEq, V.ref.injEq, List.cons.injEq, and_true, true_and, List.getElem?_cons_zero, List.getElem?_cons_succ, Option.some.injEq, List.append_nil, exists_and_left, cxOf_K, false_and, and_false, exists_false, false_or, or_false, exists_eq', exists_const, sg_eq, S_eq, tFor_eq, tLc_eq, iList_eq, iTup_eq, iRng1_eq, iStr_eq, decide_eq_true_eq, Bool.not_eq_true', decide_eq_false_iff_not, if_true, if_false, Bool.false_eq_true, reduceCtorEq, Bool.true_eq_false, decide_true, decide_false]
    refine ⟨size_le (by rw [S_len]; exact ha), size_le (by rw [S_len]; exact hb), (size_le (by simp only [List.length_cons, List.length_nil]; decide)), ?_⟩
    (intro q nq; generalize hqq : upd H' q _ = H1; obtain ⟨e1, f1⟩ := al_ nq hqq; clear hqq)
    refine k q H1 e1 ?_
    rw [f1, cutS_S, cutL_from, S_len, ec]
  cases ra with
  | nil =>
    refine ⟨false, fun R r => ?_, ?_⟩
    · simp only [tSeq, tAsg, tAnd, tOr, tNot, tTest, tB, tOp, tUn, tCB, tCons, tNil, tVar, tC, gName, rI0, rI, rU, rEq, rNe, rIxS, rIxL, rIxT, tRet, tRetN, tTup, tLst, tSl, tPart, tNoPart, rSlS, tIf, tIfS, tNext, tDrop, tCall, tBM, tBM0, tAndV, tOrV, tNotV, tM0, tM1, gSub, rSetL, tMeth, tMake, tFld, tChain, tIsN, tNotN,
  List.set_cons_zero, List.set_cons_succ, exists_eq_left', exists_eq_left, exists_eq, V.int.injEq, V.str.injEq, V.bl.injEq, V.ref.injEq, List.cons.injEq, and_true, true_and, List.getElem?_cons_zero, List.getElem?_cons_succ, Option.some.injEq, List.append_nil, exists_and_left, cxOf_K, false_and, and_false, exists_false, false_or, or_false, exists_eq', exists_const, sg_eq, S_eq, tFor_eq, tLc_eq, iList_eq, iTup_eq, iRng1_eq, iStr_eq, decide_eq_true_eq, Bool.not_eq_true', decide_eq_false_iff_not, if_true, if_false, Bool.false_eq_true, reduceCtorEq, Bool.true_eq_false, decide_true, decide_false]
      refine ⟨size_le (by rw [S_len]; exact ha), ?_⟩
      rw [if_neg (by rw [S_len]; simp at la; omega)]
      exact r
    · rw [if_neg (fun z => nomatch z)]
      exact fin rfl
  | cons x ra =>
    cases rb with
    | nil =>
      refine ⟨false, fun R r => ?_, ?_⟩
      · simp only [tSeq, tAsg, tAnd, tOr, tNot, tTest, tB, tOp, tUn, tCB, tCons, tNil, tVar, tC, gName, rI0, rI, rU, rEq, rNe, rIxS, rIxL, rIxT, tRet, tRetN, tTup, tLst, tSl, tPart, tNoPart, rSlS, tIf, tIfS, tNext, tDrop, tCall, tBM, tBM0, tAndV, tOrV, tNotV, tM0, tM1, gSub, rSetL, tMeth, tMake, tFld, tChain, tIsN, tNotN,
  List.set_cons_zero, List.set_cons_succ, exists_eq_left', exists_eq_left, exists_eq, V.int.injEq, V.str.injEq, V.bl.injEq, V.ref.injEq, List.cons.injEq, and_true, true_and, List.getElem?_cons_zero, List.getElem?_cons_succ, Option.some.injEq, List.append_nil, exists_and_left, cxOf_K, false_and, and_false, exists_false, false_or, or_false, exists_eq', exists_const, sg_eq, S_eq, tFor_eq, tLc_eq, iList_eq, iTup_eq, iRng1_eq, iStr_eq, decide_eq_true_eq, Bool.not_eq_true', decide_eq_false_iff_not, if_true, if_false, Bool.false_eq_true, reduceCtorEq, Bool.true_eq_false, decide_true, decide_false]
        refine ⟨size_le (by rw [S_len]; exact ha), ?_⟩
        rw [if_pos (by rw [S_len]; simp at la; omega)]
        refine ⟨size_le (by rw [S_len]; exact hb), ?_⟩
        rw [if_neg (by rw [S_len]; simp at lb; omega)]
        exact r
      · rw [if_neg (fun z => nomatch z)]
        exact fin rfl
    | cons y rb =>
      refine ⟨decide (x = y), fun R r => ?_, ?_⟩
      · simp only [tSeq, tAsg, tAnd, tOr, tNot, tTest, tB, tOp, tUn, tCB, tCons, tNil, tVar, tC, gName, rI0, rI, rU, rEq, rNe, rIxS, rIxL, rIxT, tRet, tRetN, tTup, tLst, tSl, tPart, tNoPart, rSlS, tIf, tIfS, tNext, tDrop, tCall, tBM, tBM0, tAndV, tOrV, tNotV, tM0, tM1, gSub, rSetL, tMeth, tMake, tFld, tChain, tIsN, tNotN,
  List.set_cons_zero, List.set_cons_succ, exists_eq_left', exists_eq_left, exists_eq, V.int.injEq, V.str.injEq, V.bl.injEq, V.ref.injEq, List.cons.injEq, and_true, true_and, List.getElem?_cons_zero, List.getElem?_cons_succ, Option.some.injEq, List.append_nil, exists_and_left, cxOf_K, false_and, and_false, exists_false, false_or, or_false, exists_eq', exists_const, sg_eq, S_eq, tFor_eq, tLc_eq, iList_eq, iTup_eq, iRng1_eq, iStr_eq, decide_eq_true_eq, Bool.not_eq_true', decide_eq_false_iff_not, if_true, if_false, Bool.false_eq_true, reduceCtorEq, Bool.true_eq_false, decide_true, decide_false]
        refine ⟨size_le (by rw [S_len]; exact ha), ?_⟩
        rw [if_pos (by rw [S_len]; simp at la; omega)]
        refine ⟨size_le (by rw [S_len]; exact hb), ?_⟩
        rw [if_pos (by rw [S_len]; simp at lb; omega)]
        refine ⟨size_le (by rw [S_len]; exact ha), x, atI_nat (by rw [ea]; simp), size_le (by rw [S_len]; exact hb), y, atI_nat (by rw [eb]; simp), rfl, ?_⟩
        exact r
      · by_cases h : x = y
        · subst h
          rw [decide_eq_true rfl, if_pos rfl]
          refine ⟨ra.length, by simp, ?_⟩
          simp only [tSeq, tAsg, tAnd, tOr, tNot, tTest, tB, tOp, tUn, tCB, tCons, tNil, tVar, tC, gName, rI0, rI, rU, rEq, rNe, rIxS, rIxL, rIxT, tRet, tRetN, tTup, tLst, tSl, tPart, tNoPart, rSlS, tIf, tIfS, tNext, tDrop, tCall, tBM, tBM0, tAndV, tOrV, tNotV, tM0, tM1, gSub, rSetL, tMeth, tMake, tFld, tChain, tIsN, tNotN,
  List.set_cons_zero, List.set_cons_succ, exists_eq_left', exists_eq_left, exists_eq, V.int.injEq, V.str.injEq, V.bl.injEq, V.ref.injEq, List.cons.injEq, and_true, true_and, List.getElem?_cons_zero, List.getElem?_cons_succ, Option.some.injEq, List.append_nil, exists_and_left, cxOf_K, false_and, and_false, exists_false, false_or, or_false, exists_eq', exists_const, sg_eq, S_eq, tFor_eq, tLc_eq, iList_eq, iTup_eq, iRng1_eq, iStr_eq, decide_eq_true_eq, Bool.not_eq_true', decide_eq_false_iff_not, if_true, if_false, Bool.false_eq_true, reduceCtorEq, Bool.true_eq_false, decide_true, decide_false]
          exact ⟨p ++ [x], ra, rb, by simp [ea], by simp [eb], rfl, by simp, rfl⟩
        · rw [decide_eq_false h, if_neg (fun z => nomatch z)]
          refine fin ?_
          show (if x = y then _ else 0) = 0
          rw [if_neg h]
end
abbrev s_law : Stmt := (top 6)
theorem sc_law : FnScope ["_law_script", "_law_box", "_law_far", "_law_head", "_law_elder", "_law_newer", "_law_same", "_law_k"] ["_law_script"] (defScope s_law) := ⟨rfl, rfl, rfl, by decide +kernel, rfl, by decide +kernel, by decide +kernel⟩

def sp_law (K : PySem.W.Frag) : Sp := fun vs H Q _ => ∃ (a : Addr) (ns : List Int), vs = [.ref a] ∧ SqL K H a (ns.map V.int) ∧ ns.length ≤ 63 ∧ ∀ H', Q (.bl true) H'
theorem com_le : ∀ a b : Tx, com a b ≤ a.length ∧ com a b ≤ b.length
  | [], _ => by simp [com]
  | _ :: _, [] => by simp [com]
  | x :: r, y :: t => by
    have h := com_le r t
    simp only [com, List.length_cons]
    split <;> omega
theorem take_com : ∀ (a b : Tx) (k : Nat), k < a.length → k < b.length → (a.take (k + 1) = b.take (k + 1) ↔ k < com a b)
  | [], _, _, h, _ => by simp at h
  | _ :: _, [], _, _, h => by simp at h
  | x :: r, y :: t, 0, _, _ => by
    simp only [com, List.take_succ_cons, List.take_zero, List.cons.injEq, and_true]
    by_cases e : x = y
    · simp [e]
    · simp [e]
  | x :: r, y :: t, k + 1, h, h2 => by
    have ih := take_com r t k (by simpa using h) (by simpa using h2)
    rw [List.take_succ_cons, List.take_succ_cons, List.cons.injEq, ih]
    simp only [com]
    by_cases e : x = y
    · simp [e]
    · simp [e]
section
variable {P : Program} {w : World} {K : PySem.W.Frag} {mg : Str → Option Value} {base : Heap}
theorem ok_law {f : Addr} {fd : FuncData} (F : FunS K "law" s_law f fd) (b_int : mg "int" = none) (b_len : mg "len" = none) (b_min : mg "min" = none) (b_range : mg "range" = none) (c_l_begun : Cal P w K mg base CX0 1 "_law_begun" (sp_begun K)) (c_l_take : Cal P w K mg base CX0 1 "_law_take" sp_take) (c_l_alike : Cal P w K mg base CX0 6 "_law_alike" (sp_alike K 6)) (c_sent : Cal P w K mg base CX0 1 "sent" sp_sent) : FnOk P w K mg base CX0 8 f fd ["_law_script"] (sp_law K) := by
  refine F.ok sc_law (fun vs H Q E h => ?_) (fun cdv A outer s H vs Q E hr h => ?_)
  · obtain ⟨a, ns, rfl, _⟩ := h
    rfl
  obtain ⟨a, ns, rfl, hS, hn, k⟩ := h
  refine ⟨_, PSs.nox (pss_cons (ps_set (i := 1) sc_law.nd rfl (.inr rfl) (pe_c c_l_begun hr (by first | decide | omega) (by rfl) (pa_cons (pv 0) pa_nil)))
  (pss_cons (ps_set (i := 2) sc_law.nd rfl (.inl rfl) (pe_ix ix_list (pe_lst (pa_cons pe_int (pa_cons pe_int pa_nil))) (pe_callTy call_int1 (by rfl) b_int (by decide +kernel) (pa_cons (pe_cmpR op_eq (pe_c c_l_take hr (by first | decide | omega) (by rfl) (pa_cons (pv 1) (pa_cons pe_int pa_nil))) pe_int (nomark _)) pa_nil)) (fun _ _ => rfl)))
  (pss_cons (ps_set (i := 3) sc_law.nd rfl (.inl rfl) (pe_join pe_str (pe_lc (own := [("_law_k", 7)]) rfl sc_law.nd (pi_range1 (by rfl) b_range (pa_cons (pe_c c_l_take hr (by first | decide | omega) (by rfl) (pa_cons (pv 1) (pa_cons (pv 2) pa_nil))) pa_nil)) (blkOk_by (N := ["_law_script", "_law_box", "_law_far", "_law_head", "_law_elder", "_law_newer", "_law_same", "_law_k"]) (sc := defScope s_law) (own := [("_law_k", 7)]) (by decide +kernel)) (fun _ _ _ _ _ => (pg_name (i := 7) sc_law.nd rfl (.inl rfl))) (fun _ _ _ _ _ => pts_nil) (fun _ _ _ _ _ => (pe_ix ix_str pe_str (pe_c c_l_take hr (by first | decide | omega) (by rfl) (pa_cons (pv 1) (pa_cons pe_int pa_nil))) (fun _ _ => rfl))))))
  (pss_cons (ps_set (i := 4) sc_law.nd rfl (.inr rfl) (pe_op op_add_str (pv 3) (pe_join pe_str (pe_lc (own := [("_law_k", 7)]) rfl sc_law.nd (pi_range1 (by rfl) b_range (pa_cons (pe_c c_l_take hr (by first | decide | omega) (by rfl) (pa_cons (pv 1) (pa_cons pe_int pa_nil))) pa_nil)) (blkOk_by (N := ["_law_script", "_law_box", "_law_far", "_law_head", "_law_elder", "_law_newer", "_law_same", "_law_k"]) (sc := defScope s_law) (own := [("_law_k", 7)]) (by decide +kernel)) (fun _ _ _ _ _ => (pg_name (i := 7) sc_law.nd rfl (.inl rfl))) (fun _ _ _ _ _ => pts_nil) (fun _ _ _ _ _ => (pe_ix ix_str pe_str (pe_c c_l_take hr (by first | decide | omega) (by rfl) (pa_cons (pv 1) (pa_cons pe_int pa_nil))) (fun _ _ => rfl)))))))
  (pss_cons (ps_set (i := 5) sc_law.nd rfl (.inr rfl) (pe_op op_add_str (pv 3) (pe_join pe_str (pe_lc (own := [("_law_k", 7)]) rfl sc_law.nd (pi_range1 (by rfl) b_range (pa_cons (pe_c c_l_take hr (by first | decide | omega) (by rfl) (pa_cons (pv 1) (pa_cons pe_int pa_nil))) pa_nil)) (blkOk_by (N := ["_law_script", "_law_box", "_law_far", "_law_head", "_law_elder", "_law_newer", "_law_same", "_law_k"]) (sc := defScope s_law) (own := [("_law_k", 7)]) (by decide +kernel)) (fun _ _ _ _ _ => (pg_name (i := 7) sc_law.nd rfl (.inl rfl))) (fun _ _ _ _ _ => pts_nil) (fun _ _ _ _ _ => (pe_ix ix_str pe_str (pe_c c_l_take hr (by first | decide | omega) (by rfl) (pa_cons (pv 1) (pa_cons pe_int pa_nil))) (fun _ _ => rfl)))))))
  (pss_cons (ps_set (i := 6) sc_law.nd rfl (.inl rfl) (pe_callB call_len_seq (by rfl) b_len PySem.boot_len (pa_cons (pe_lc (own := [("_law_k", 7)]) rfl sc_law.nd (pi_range1 (by rfl) b_range (pa_cons (pe_callB (call_min2 rfl) (by rfl) b_min (by decide +kernel) (pa_cons (pe_callB call_len_str (by rfl) b_len PySem.boot_len (pa_cons (pv 4) pa_nil)) (pa_cons (pe_callB call_len_str (by rfl) b_len PySem.boot_len (pa_cons (pv 5) pa_nil)) pa_nil))) pa_nil)) (blkOk_by (N := ["_law_script", "_law_box", "_law_far", "_law_head", "_law_elder", "_law_newer", "_law_same", "_law_k"]) (sc := defScope s_law) (own := [("_law_k", 7)]) (by decide +kernel)) (fun _ _ _ _ _ => (pg_name (i := 7) sc_law.nd rfl (.inl rfl))) (fun _ _ _ _ _ => (pts_one (pt_cmpR op_eq (pe_slice sl_str (pv 4) po_none (po_some (pe_op op_add (pv 7) pe_int))) (pe_slice sl_str (pv 5) po_none (po_some (pe_op op_add (pv 7) pe_int))) (nomark _)))) (fun _ _ _ _ _ => (pv 7))) pa_nil)))
  (pss_one (ps_ret (pe_c c_l_alike hr (by first | decide | omega) (by rfl) (pa_cons (pe_c c_sent hr (by first | decide | omega) (by rfl) (pa_cons (pv 4) (pa_cons (pv 5) pa_nil))) (pa_cons (pe_tup (pa_cons (pe_op op_sub (pe_callB call_len_str (by rfl) b_len PySem.boot_len (pa_cons (pv 4) pa_nil)) (pv 6)) (pa_cons (pe_slice sl_str (pv 5) (po_some (pv 6)) po_none) pa_nil))) pa_nil))))))))))), ?_⟩
  simp only [tSeq, tAsg, tAnd, tOr, tNot, tTest, tB, tOp, tUn, tCB, tCons, tNil, tVar, tC, gName, rI0, rI, rU, rEq, rNe, rIxS, rIxL, rIxT, tRet, tRetN, tTup, tLst, tSl, tPart, tNoPart, rSlS, tIf, tIfS, tNext, tDrop, tCall, tBM, tBM0, tAndV, tOrV, tNotV, tM0, tM1, gSub, rSetL, tMeth, tMake, tFld, tChain, tIsN, tNotN,
  List.set_cons_zero, List.set_cons_succ, exists_eq_left', exists_eq_left, exists_eq, V.int.injEq, V.str.injEq, V.bl.injEq, V.ref.injEq, List.cons.injEq, and_true, true_and, List.getElem?_cons_zero, List.getElem?_cons_succ, Option.some.injEq, List.append_nil, exists_and_left, cxOf_K, false_and, and_false, exists_false, false_or, or_false, exists_eq', exists_const, sg_eq, S_eq, tFor_eq, tLc_eq, iList_eq, iTup_eq, iRng1_eq, iStr_eq, decide_eq_true_eq, Bool.not_eq_true', decide_eq_false_iff_not, if_true, if_false, Bool.false_eq_true, reduceCtorEq, Bool.true_eq_false, decide_true, decide_false, lit_, lit_97_98_32, start1_8]
  refine ⟨a, ns, rfl, hS, hn, fun b G H1 e1 B1 => ?_⟩
  refine ⟨(size_le (by simp only [List.length_cons, List.length_nil]; decide)), ?_⟩
  (intro p np; generalize hqp : upd _ p _ = H2; obtain ⟨G2, gp, e2, B2, f2⟩ := alB_ B1 np hqp; clear hqp np)
  refine take_ B2 (by decide) (by decide) fun r H3 _ B3 => ⟨rfl, ?_⟩
  simp only [tSeq, tAsg, tAnd, tOr, tNot, tTest, tB, tOp, tUn, tCB, tCons, tNil, tVar, tC, gName, rI0, rI, rU, rEq, rNe, rIxS, rIxL, rIxT, tRet, tRetN, tTup, tLst, tSl, tPart, tNoPart, rSlS, tIf, tIfS, tNext, tDrop, tCall, tBM, tBM0, tAndV, tOrV, tNotV, tM0, tM1, gSub, rSetL, tMeth, tMake, tFld, tChain, tIsN, tNotN,
  List.set_cons_zero, List.set_cons_succ, exists_eq_left', exists_eq_left, exists_eq, V.int.injEq, V.str.injEq, V.bl.injEq, V.ref.injEq, List.cons.injEq, and_true, true_and, List.getElem?_cons_zero, List.getElem?_cons_succ, Option.some.injEq, List.append_nil, exists_and_left, cxOf_K, false_and, and_false, exists_false, false_or, or_false, exists_eq', exists_const, sg_eq, S_eq, tFor_eq, tLc_eq, iList_eq, iTup_eq, iRng1_eq, iStr_eq, decide_eq_true_eq, Bool.not_eq_true', decide_eq_false_iff_not, if_true, if_false, Bool.false_eq_true, reduceCtorEq, Bool.true_eq_false, decide_true, decide_false, lit_, lit_97_98_32, start1_8]
  obtain ⟨n, hn0, hn1, eat⟩ : ∃ n : Int, 0 < n ∧ n < 400 ∧ atI [V.int 21, V.int 301] (if (r : Int) = 1 then 1 else 0) = some (.int n) := by
    split
    · exact ⟨301, by decide, by decide, rfl⟩
    · exact ⟨21, by decide, by decide, rfl⟩
  refine ⟨_, sq_of (B3.ex _ _ f2), _, eat, ?_⟩
  -- the elements of all three comprehensions
  have el : ∀ (σ : L2.St) (G' H' : Hp) (Q' : VK), σ[1]? = some (some (.ref b)) → Bx b G' H' → (∀ c G2 H2, Same G' G2 → Bx b G2 H2 → True → Q' (.str (S [c])) H2) →
      tOp rIxS (tC (.str (S [97, 98, 32]))) (tCall sp_take [] E0 (tCons (tVar 1) (tCons (tC (.int 3)) tNil))) σ H' Q' := fun σ G' H' Q' e B q => by
    simp only [tSeq, tAsg, tAnd, tOr, tNot, tTest, tB, tOp, tUn, tCB, tCons, tNil, tVar, tC, gName, rI0, rI, rU, rEq, rNe, rIxS, rIxL, rIxT, tRet, tRetN, tTup, tLst, tSl, tPart, tNoPart, rSlS, tIf, tIfS, tNext, tDrop, tCall, tBM, tBM0, tAndV, tOrV, tNotV, tM0, tM1, gSub, rSetL, tMeth, tMake, tFld, tChain, tIsN, tNotN,
  List.set_cons_zero, List.set_cons_succ, exists_eq_left', exists_eq_left, exists_eq, V.int.injEq, V.str.injEq, V.bl.injEq, V.ref.injEq, List.cons.injEq, and_true, true_and, List.getElem?_cons_zero, List.getElem?_cons_succ, Option.some.injEq, List.append_nil, exists_and_left, cxOf_K, false_and, and_false, exists_false, false_or, or_false, exists_eq', exists_const, sg_eq, S_eq, tFor_eq, tLc_eq, iList_eq, iTup_eq, iRng1_eq, iStr_eq, decide_eq_true_eq, Bool.not_eq_true', decide_eq_false_iff_not, if_true, if_false, Bool.false_eq_true, reduceCtorEq, Bool.true_eq_false, decide_true, decide_false, e]
    refine take_ B (by decide) (by decide) fun r H2 hr B2 => ?_
    simp only [tSeq, tAsg, tAnd, tOr, tNot, tTest, tB, tOp, tUn, tCB, tCons, tNil, tVar, tC, gName, rI0, rI, rU, rEq, rNe, rIxS, rIxL, rIxT, tRet, tRetN, tTup, tLst, tSl, tPart, tNoPart, rSlS, tIf, tIfS, tNext, tDrop, tCall, tBM, tBM0, tAndV, tOrV, tNotV, tM0, tM1, gSub, rSetL, tMeth, tMake, tFld, tChain, tIsN, tNotN,
  List.set_cons_zero, List.set_cons_succ, exists_eq_left', exists_eq_left, exists_eq, V.int.injEq, V.str.injEq, V.bl.injEq, V.ref.injEq, List.cons.injEq, and_true, true_and, List.getElem?_cons_zero, List.getElem?_cons_succ, Option.some.injEq, List.append_nil, exists_and_left, cxOf_K, false_and, and_false, exists_false, false_or, or_false, exists_eq', exists_const, sg_eq, S_eq, tFor_eq, tLc_eq, iList_eq, iTup_eq, iRng1_eq, iStr_eq, decide_eq_true_eq, Bool.not_eq_true', decide_eq_false_iff_not, if_true, if_false, Bool.false_eq_true, reduceCtorEq, Bool.true_eq_false, decide_true, decide_false]
    have h3 : r < [97, 98, 32].length := by simp; omega
    exact ⟨size_le (by decide), _, atI_nat (List.getElem?_eq_getElem h3), q _ _ _ (Same.refl _) B2 trivial⟩
  refine take_ B3 hn0 (by omega) fun n1 H4 hn1' B4 => ?_
  simp only [tSeq, tAsg, tAnd, tOr, tNot, tTest, tB, tOp, tUn, tCB, tCons, tNil, tVar, tC, gName, rI0, rI, rU, rEq, rNe, rIxS, rIxL, rIxT, tRet, tRetN, tTup, tLst, tSl, tPart, tNoPart, rSlS, tIf, tIfS, tNext, tDrop, tCall, tBM, tBM0, tAndV, tOrV, tNotV, tM0, tM1, gSub, rSetL, tMeth, tMake, tFld, tChain, tIsN, tNotN,
  List.set_cons_zero, List.set_cons_succ, exists_eq_left', exists_eq_left, exists_eq, V.int.injEq, V.str.injEq, V.bl.injEq, V.ref.injEq, List.cons.injEq, and_true, true_and, List.getElem?_cons_zero, List.getElem?_cons_succ, Option.some.injEq, List.append_nil, exists_and_left, cxOf_K, false_and, and_false, exists_false, false_or, or_false, exists_eq', exists_const, sg_eq, S_eq, tFor_eq, tLc_eq, iList_eq, iTup_eq, iRng1_eq, iStr_eq, decide_eq_true_eq, Bool.not_eq_true', decide_eq_false_iff_not, if_true, if_false, Bool.false_eq_true, reduceCtorEq, Bool.true_eq_false, decide_true, decide_false]
  refine ⟨by omega, by omega, ?_⟩
  rw [Int.toNat_natCast]
  intro L hL
  refine signs_draw (fun _ => True) (by omega) B4 hL (fun _ => rfl) (fun i G' H' Q' _ _ B q => el _ G' H' Q' rfl B q) ?_
  intro hd G5 H5 e5 B5 f5 len5 _
  clear hL
  simp only [tSeq, tAsg, tAnd, tOr, tNot, tTest, tB, tOp, tUn, tCB, tCons, tNil, tVar, tC, gName, rI0, rI, rU, rEq, rNe, rIxS, rIxL, rIxT, tRet, tRetN, tTup, tLst, tSl, tPart, tNoPart, rSlS, tIf, tIfS, tNext, tDrop, tCall, tBM, tBM0, tAndV, tOrV, tNotV, tM0, tM1, gSub, rSetL, tMeth, tMake, tFld, tChain, tIsN, tNotN,
  List.set_cons_zero, List.set_cons_succ, exists_eq_left', exists_eq_left, exists_eq, V.int.injEq, V.str.injEq, V.bl.injEq, V.ref.injEq, List.cons.injEq, and_true, true_and, List.getElem?_cons_zero, List.getElem?_cons_succ, Option.some.injEq, List.append_nil, exists_and_left, cxOf_K, false_and, and_false, exists_false, false_or, or_false, exists_eq', exists_const, sg_eq, S_eq, tFor_eq, tLc_eq, iList_eq, iTup_eq, iRng1_eq, iStr_eq, decide_eq_true_eq, Bool.not_eq_true', decide_eq_false_iff_not, if_true, if_false, Bool.false_eq_true, reduceCtorEq, Bool.true_eq_false, decide_true, decide_false]
  refine ⟨_, .inl (sq_of (B5.ex _ _ f5)), signs_size hd (by omega), ?_⟩
  rw [join_signs]
  refine take_ B5 (by decide) (by decide) fun n2 H6 hn2 B6 => ?_
  simp only [tSeq, tAsg, tAnd, tOr, tNot, tTest, tB, tOp, tUn, tCB, tCons, tNil, tVar, tC, gName, rI0, rI, rU, rEq, rNe, rIxS, rIxL, rIxT, tRet, tRetN, tTup, tLst, tSl, tPart, tNoPart, rSlS, tIf, tIfS, tNext, tDrop, tCall, tBM, tBM0, tAndV, tOrV, tNotV, tM0, tM1, gSub, rSetL, tMeth, tMake, tFld, tChain, tIsN, tNotN,
  List.set_cons_zero, List.set_cons_succ, exists_eq_left', exists_eq_left, exists_eq, V.int.injEq, V.str.injEq, V.bl.injEq, V.ref.injEq, List.cons.injEq, and_true, true_and, List.getElem?_cons_zero, List.getElem?_cons_succ, Option.some.injEq, List.append_nil, exists_and_left, cxOf_K, false_and, and_false, exists_false, false_or, or_false, exists_eq', exists_const, sg_eq, S_eq, tFor_eq, tLc_eq, iList_eq, iTup_eq, iRng1_eq, iStr_eq, decide_eq_true_eq, Bool.not_eq_true', decide_eq_false_iff_not, if_true, if_false, Bool.false_eq_true, reduceCtorEq, Bool.true_eq_false, decide_true, decide_false]
  refine ⟨by omega, by omega, ?_⟩
  rw [Int.toNat_natCast]
  intro L2 hL2
  refine signs_draw (fun _ => True) (by omega) B6 hL2 (fun _ => rfl) (fun i G' H' Q' _ _ B q => el _ G' H' Q' rfl B q) ?_
  intro t1 G7 H7 e7 B7 f7 len7 _
  clear hL2
  simp only [tSeq, tAsg, tAnd, tOr, tNot, tTest, tB, tOp, tUn, tCB, tCons, tNil, tVar, tC, gName, rI0, rI, rU, rEq, rNe, rIxS, rIxL, rIxT, tRet, tRetN, tTup, tLst, tSl, tPart, tNoPart, rSlS, tIf, tIfS, tNext, tDrop, tCall, tBM, tBM0, tAndV, tOrV, tNotV, tM0, tM1, gSub, rSetL, tMeth, tMake, tFld, tChain, tIsN, tNotN,
  List.set_cons_zero, List.set_cons_succ, exists_eq_left', exists_eq_left, exists_eq, V.int.injEq, V.str.injEq, V.bl.injEq, V.ref.injEq, List.cons.injEq, and_true, true_and, List.getElem?_cons_zero, List.getElem?_cons_succ, Option.some.injEq, List.append_nil, exists_and_left, cxOf_K, false_and, and_false, exists_false, false_or, or_false, exists_eq', exists_const, sg_eq, S_eq, tFor_eq, tLc_eq, iList_eq, iTup_eq, iRng1_eq, iStr_eq, decide_eq_true_eq, Bool.not_eq_true', decide_eq_false_iff_not, if_true, if_false, Bool.false_eq_true, reduceCtorEq, Bool.true_eq_false, decide_true, decide_false]
  refine ⟨_, .inl (sq_of (B7.ex _ _ f7)), signs_size t1 (by omega), ?_⟩
  rw [join_signs]
  refine ⟨size_le (by rw [S_len, S_len]; omega), ?_⟩
  refine take_ B7 (by decide) (by decide) fun n3 H8 hn3 B8 => ?_
  simp only [tSeq, tAsg, tAnd, tOr, tNot, tTest, tB, tOp, tUn, tCB, tCons, tNil, tVar, tC, gName, rI0, rI, rU, rEq, rNe, rIxS, rIxL, rIxT, tRet, tRetN, tTup, tLst, tSl, tPart, tNoPart, rSlS, tIf, tIfS, tNext, tDrop, tCall, tBM, tBM0, tAndV, tOrV, tNotV, tM0, tM1, gSub, rSetL, tMeth, tMake, tFld, tChain, tIsN, tNotN,
  List.set_cons_zero, List.set_cons_succ, exists_eq_left', exists_eq_left, exists_eq, V.int.injEq, V.str.injEq, V.bl.injEq, V.ref.injEq, List.cons.injEq, and_true, true_and, List.getElem?_cons_zero, List.getElem?_cons_succ, Option.some.injEq, List.append_nil, exists_and_left, cxOf_K, false_and, and_false, exists_false, false_or, or_false, exists_eq', exists_const, sg_eq, S_eq, tFor_eq, tLc_eq, iList_eq, iTup_eq, iRng1_eq, iStr_eq, decide_eq_true_eq, Bool.not_eq_true', decide_eq_false_iff_not, if_true, if_false, Bool.false_eq_true, reduceCtorEq, Bool.true_eq_false, decide_true, decide_false]
  refine ⟨by omega, by omega, ?_⟩
  rw [Int.toNat_natCast]
  intro L3 hL3
  refine signs_draw (fun _ => True) (by omega) B8 hL3 (fun _ => rfl) (fun i G' H' Q' _ _ B q => el _ G' H' Q' rfl B q) ?_
  intro t2 G9 H9 e9 B9 f9 len9 _
  clear hL3
  simp only [tSeq, tAsg, tAnd, tOr, tNot, tTest, tB, tOp, tUn, tCB, tCons, tNil, tVar, tC, gName, rI0, rI, rU, rEq, rNe, rIxS, rIxL, rIxT, tRet, tRetN, tTup, tLst, tSl, tPart, tNoPart, rSlS, tIf, tIfS, tNext, tDrop, tCall, tBM, tBM0, tAndV, tOrV, tNotV, tM0, tM1, gSub, rSetL, tMeth, tMake, tFld, tChain, tIsN, tNotN,
  List.set_cons_zero, List.set_cons_succ, exists_eq_left', exists_eq_left, exists_eq, V.int.injEq, V.str.injEq, V.bl.injEq, V.ref.injEq, List.cons.injEq, and_true, true_and, List.getElem?_cons_zero, List.getElem?_cons_succ, Option.some.injEq, List.append_nil, exists_and_left, cxOf_K, false_and, and_false, exists_false, false_or, or_false, exists_eq', exists_const, sg_eq, S_eq, tFor_eq, tLc_eq, iList_eq, iTup_eq, iRng1_eq, iStr_eq, decide_eq_true_eq, Bool.not_eq_true', decide_eq_false_iff_not, if_true, if_false, Bool.false_eq_true, reduceCtorEq, Bool.true_eq_false, decide_true, decide_false]
  refine ⟨_, .inl (sq_of (B9.ex _ _ f9)), signs_size t2 (by omega), ?_⟩
  rw [join_signs]
  refine ⟨size_le (by rw [S_len, S_len]; omega), ?_⟩
  simp only [S_cat]
  have le1 : (hd ++ t1).length ≤ 100000 := by rw [List.length_append]; omega
  have le2 : (hd ++ t2).length ≤ 100000 := by rw [List.length_append]; omega
  clear el
  generalize hd ++ t1 = x at *
  generalize hd ++ t2 = y at *
  refine ⟨size_le (by rw [S_len]; omega), size_le (by rw [S_len]; omega), _, _, ⟨rfl, rfl⟩, ?_⟩
  rw [S_len, S_len]
  obtain ⟨m, em, lm1, lm2, lm3⟩ : ∃ m : Nat, (if (y.length : Int) < x.length then (y.length : Int) else x.length) = m ∧ m ≤ x.length ∧ m ≤ y.length ∧ (m = x.length ∨ m = y.length) := by
    split
    · exact ⟨y.length, rfl, by omega, Nat.le_refl _, .inr rfl⟩
    · exact ⟨x.length, rfl, Nat.le_refl _, by omega, .inl rfl⟩
  rw [em]
  refine ⟨by omega, by omega, ?_⟩
  rw [Int.toNat_natCast]
  (intro L4 nL4; generalize hqL4 : upd H9 L4 _ = H10; obtain ⟨e10, f10⟩ := al_ nL4 hqL4; clear hqL4)
  have cm := com_le x y
  refine comp_range (fun i acc _ => acc.length = min i (com x y)) (by omega) (by simp) f10 ?_ ?_
  · intro i acc H' hi hA hn hi2 hp
    refine ⟨rfl, ?_⟩
    simp only [wipe, List.map_cons, List.map_nil, gName, List.set_cons_succ, List.set_cons_zero]
    simp only [tSeq, tAsg, tAnd, tOr, tNot, tTest, tB, tOp, tUn, tCB, tCons, tNil, tVar, tC, gName, rI0, rI, rU, rEq, rNe, rIxS, rIxL, rIxT, tRet, tRetN, tTup, tLst, tSl, tPart, tNoPart, rSlS, tIf, tIfS, tNext, tDrop, tCall, tBM, tBM0, tAndV, tOrV, tNotV, tM0, tM1, gSub, rSetL, tMeth, tMake, tFld, tChain, tIsN, tNotN,
  List.set_cons_zero, List.set_cons_succ, exists_eq_left', exists_eq_left, exists_eq, V.int.injEq, V.str.injEq, V.bl.injEq, V.ref.injEq, List.cons.injEq, and_true, true_and, List.getElem?_cons_zero, List.getElem?_cons_succ, Option.some.injEq, List.append_nil, exists_and_left, cxOf_K, false_and, and_false, exists_false, false_or, or_false, exists_eq', exists_const, sg_eq, S_eq, tFor_eq, tLc_eq, iList_eq, iTup_eq, iRng1_eq, iStr_eq, decide_eq_true_eq, Bool.not_eq_true', decide_eq_false_iff_not, if_true, if_false, Bool.false_eq_true, reduceCtorEq, Bool.true_eq_false, decide_true, decide_false]
    refine ⟨size_le (by rw [S_len]; omega), size_le (by rw [S_len]; omega), rfl, ?_⟩
    have ei : (i : Int) + 1 = ((i + 1 : Nat) : Int) := by omega
    simp only [ei, cutS_S, cutL_to, S_eq, take_com x y i (by omega) (by omega)]
    refine ite2 (fun hc => ?_) (fun hc => ?_)
    · refine cput hA hn hi2 ?_
      simp only [List.length_append, List.length_singleton, hp]
      omega
    · refine cskip hA hn ?_
      rw [hp]
      omega
  · intro acc H' hA hn hp
    have hc : acc.length = com x y := by
      rw [hp]
      omega
    refine ⟨_, rfl, acc, .inl (sq_of hA), ?_⟩
    rw [hc]
    refine ⟨x, y, rfl, by omega, by omega, fun p1 H11 e11 f11 => ?_⟩
    refine ⟨(size_le (by (try simp only [S_len, List.length_append, List.length_cons, List.length_nil]); omega)), (size_le (by (try simp only [S_len, List.length_append, List.length_cons, List.length_nil]); omega)), (size_le (by simp only [List.length_cons, List.length_nil]; decide)), ?_⟩
    (intro p2 np2; generalize hqp2 : upd H11 p2 _ = H12; obtain ⟨e12, f12⟩ := al_ np2 hqp2; clear hqp2)
    rw [cutS_S, cutL_from] at f12
    refine ⟨_, _, .tuple [.int ((x.length : Int) - com x y), .str (S (y.drop (com x y)))], rfl, .tup (st_of (e12 _ _ f11)) (.cons (.int _) (.cons (.str _) .nil)), .tup (st_of f12) (.cons (.int _) (.cons (.str _) .nil)), ⟨by simp, ?_⟩, k _⟩
    intro d hd
    simp only [List.mem_cons, List.not_mem_nil, or_false] at hd
    rcases hd with rfl | rfl <;> trivial
end
def d_l_begun : He.DefD := ⟨("_law_begun", none), "_law_begun", "_law_begun", defArgs s_l_begun, defBody s_l_begun, defScope s_l_begun, [], []⟩
def d_l_take : He.DefD := ⟨("_law_take", none), "_law_take", "_law_take", defArgs s_l_take, defBody s_l_take, defScope s_l_take, [], []⟩
def d_l_alike : He.DefD := ⟨("_law_alike", none), "_law_alike", "_law_alike", defArgs s_l_alike, defBody s_l_alike, defScope s_l_alike, [], []⟩
def d_sent : He.DefD := ⟨("sent", none), "sent", "sent", defArgs s_sent, defBody s_sent, defScope s_sent, [], []⟩
def d_law : He.DefD := ⟨("law", none), "law", "law", defArgs s_law, defBody s_law, defScope s_law, [], []⟩
def fn : List He.DefD := [d_l_begun, d_l_take, d_l_alike, d_sent, d_law]
def fa : List He.Fa := [.glo "_law_begun", .glo "_law_take", .glo "_law_alike", .glo "sent", .glo "law", .free "bool", .free "int", .free "isinstance", .free "len", .free "list", .free "min", .free "range", .free "str", .free "tuple"]
abbrev R : PySem.W.OpenRow := PySem.W.OpenLaw.row PySem.Challenge.rw_chords_k10_sent
def exb (K : PySem.W.Frag) : Bool := true
abbrev hk : PySem.W.Hook := He.hookX 5 fa fn [] [] exb
def ob (s : PySem.W.SharedT) : He.AlX := He.obsX 5 fa fn [] [] exb (HandSHeadRun.getT s)
theorem ob_eq (s : PySem.W.SharedT) : ob s = hk.obs s.abs := He.obsX_eq (HandSHeadRun.getT_eq s)
theorem run (w : World) : HandSHeadRun.RunEq R (PySem.W.view R.prog [6]) hk ob 4000 ["sent", "_law_begun", "_law_take", "_law_alike"] w := by
  intro os
  kernel_rfl
theorem facts {P : Program} {w : World} {K : PySem.W.Frag} {h : Heap} {mg : Str → Option Value} {f : Addr} (X : K.In h) (G : h.Ns mainGlobals mg) (hfa : mg ("law" : Str) = some (.ref f)) (c : He.SaysX fa fn [] [] exb w h K) :
    ∃ fd : FuncData, (∀ (s : Shared) (v : Value), BindsTo s fd ⟨[v], []⟩ [("_law_script", v)]) ∧ ∀ base : Heap, K.In base → base.Ns mainGlobals mg → FnOk P w K mg base CX0 20 f fd ["_law_script"] (sp_law K) := by
  have e := hfa.symm.trans (He.glo_ok X G (c.t.d.fact 4 (f := .glo "law") rfl))
  cases e
  obtain ⟨fd_l_begun, F_l_begun⟩ : ∃ fd, FunS K "_law_begun" s_l_begun (He.ga K "_law_begun") fd := c.t.d.def_ 0 (d := d_l_begun) rfl
  have m_l_begun : mg "_law_begun" = some (.ref _) := He.glo_ok X G (c.t.d.fact 0 (f := .glo "_law_begun") rfl)
  have n_l_begun := FunD.bindsN (ps := ["_law_script"]) F_l_begun fun _ _ _ _ _ _ us hl => match us, hl with | [_], _ => rfl
  obtain ⟨fd_l_take, F_l_take⟩ : ∃ fd, FunS K "_law_take" s_l_take (He.ga K "_law_take") fd := c.t.d.def_ 1 (d := d_l_take) rfl
  have m_l_take : mg "_law_take" = some (.ref _) := He.glo_ok X G (c.t.d.fact 1 (f := .glo "_law_take") rfl)
  have n_l_take := FunD.bindsN (ps := ["_law_box", "_law_many"]) F_l_take fun _ _ _ _ _ _ us hl => match us, hl with | [_, _], _ => rfl
  obtain ⟨fd_l_alike, F_l_alike⟩ : ∃ fd, FunS K "_law_alike" s_l_alike (He.ga K "_law_alike") fd := c.t.d.def_ 2 (d := d_l_alike) rfl
  have m_l_alike : mg "_law_alike" = some (.ref _) := He.glo_ok X G (c.t.d.fact 2 (f := .glo "_law_alike") rfl)
  have n_l_alike := FunD.bindsN (ps := ["_law_found", "_law_due"]) F_l_alike fun _ _ _ _ _ _ us hl => match us, hl with | [_, _], _ => rfl
  obtain ⟨fd_sent, F_sent⟩ : ∃ fd, FunS K "sent" s_sent (He.ga K "sent") fd := c.t.d.def_ 3 (d := d_sent) rfl
  have m_sent : mg "sent" = some (.ref _) := He.glo_ok X G (c.t.d.fact 3 (f := .glo "sent") rfl)
  have n_sent := FunD.bindsN (ps := ["elder", "newer"]) F_sent fun _ _ _ _ _ _ us hl => match us, hl with | [_, _], _ => rfl
  obtain ⟨fd_law, F_law⟩ : ∃ fd, FunS K "law" s_law (He.ga K "law") fd := c.t.d.def_ 4 (d := d_law) rfl
  have n_law := FunD.bindsA (ps := ["_law_script"]) F_law fun _ _ _ _ _ _ us hl => match us, hl with | [_], _ => rfl
  have b_bool : mg "bool" = none := He.free_ok X G (c.t.d.fact 5 (f := .free "bool") rfl)
  have b_int : mg "int" = none := He.free_ok X G (c.t.d.fact 6 (f := .free "int") rfl)
  have b_isinstance : mg "isinstance" = none := He.free_ok X G (c.t.d.fact 7 (f := .free "isinstance") rfl)
  have b_len : mg "len" = none := He.free_ok X G (c.t.d.fact 8 (f := .free "len") rfl)
  have b_list : mg "list" = none := He.free_ok X G (c.t.d.fact 9 (f := .free "list") rfl)
  have b_min : mg "min" = none := He.free_ok X G (c.t.d.fact 10 (f := .free "min") rfl)
  have b_range : mg "range" = none := He.free_ok X G (c.t.d.fact 11 (f := .free "range") rfl)
  have b_str : mg "str" = none := He.free_ok X G (c.t.d.fact 12 (f := .free "str") rfl)
  have b_tuple : mg "tuple" = none := He.free_ok X G (c.t.d.fact 13 (f := .free "tuple") rfl)
  refine ⟨fd_law, fun s v => n_law s [v] rfl, fun base _ _ => ?_⟩
  have c_l_begun : Cal P w K mg base CX0 1 "_law_begun" (sp_begun K) := cal_of F_l_begun (ok_begun F_l_begun (b_int := b_int) (b_len := b_len) (b_list := b_list)) m_l_begun n_l_begun
  have c_l_take : Cal P w K mg base CX0 1 "_law_take" sp_take := cal_of F_l_take (ok_take F_l_take ) m_l_take n_l_take
  have c_l_alike := cal_alike (P := P) (w := w) (base := base) F_l_alike n_l_alike m_l_alike (b_bool := b_bool) (b_int := b_int) (b_isinstance := b_isinstance) (b_len := b_len) (b_list := b_list) (b_range := b_range) (b_str := b_str) (b_tuple := b_tuple) 6
  have c_sent : Cal P w K mg base CX0 1 "sent" sp_sent := cal_of F_sent (ok_sent F_sent (b_len := b_len)) m_sent n_sent
  exact FnOk.mono (ok_law F_law (b_int := b_int) (b_len := b_len) (b_min := b_min) (b_range := b_range) (c_l_begun := c_l_begun) (c_l_take := c_l_take) (c_l_alike := c_l_alike) (c_sent := c_sent)) (by decide)
end Ch
open PySem PySem.W PySem.Calls PyProof.Rows
set_option maxHeartbeats 0 in
theorem PySem.Challenge.cw_chords_k10_sent_holds : PySem.Challenge.rw_chords_k10_sent.Holds := by
  w_on; o_law
  refine HandSHeadRun.head_any (r := OpenLaw.row PySem.Challenge.rw_chords_k10_sent) (q := view (OpenLaw.row PySem.Challenge.rw_chords_k10_sent).prog [6]) (H := Ch.hk) (ob := Ch.ob) (M := 4000) (loose := ["sent", "_law_begun", "_law_take", "_law_alike"]) (d := HandSHeadRun.topDef (OpenLaw.row PySem.Challenge.rw_chords_k10_sent).prog 6) (kwd := []) Ch.ob_eq
    (by kernel_rfl) (fun s => by kernel_rfl) Ch.run (by kernel_rfl) (by kernel_rfl) (by kernel_rfl) (by rfl) (by first | assumption | decide +kernel) (by decide +kernel) ⟨rfl, rfl, rfl, rfl, rfl, by decide +kernel⟩ ?hw ?hc
  case hw => w_witness2
  case hc =>
    refine L2.walk_ofE (l := PySem.Challenge.rw_chords_k10_sent) (n := 63) (k := 20) (x := "_law_script") (CX := L2.CX0) rfl (by decide) (by kernel_rfl) ⟨rfl, by decide, by decide⟩ ?F (fun _ _ _ _ z => z)
    intro w mg fa h Y G hmg0
    obtain ⟨K, KX, c⟩ := Y
    have hmg : mg ("law" : PySem.Str) = some (.ref fa) := by
      have e : (HandSHeadRun.topDef (OpenLaw.row PySem.Challenge.rw_chords_k10_sent).prog 6).name = ("law" : PySem.Str) := by kernel_rfl
      rw [← e]
      exact hmg0
    obtain ⟨fd, hb, hF⟩ := Ch.facts (P := (PySem.Challenge.rw_chords_k10_sent).prog) (w := w) KX G hmg c
    exact ⟨K, fd, Ch.sp_law K, KX, hb, fun H a ns hl _ hS => ⟨a, ns, rfl, hS, hl, fun _ => rfl⟩, hF⟩
#print axioms PySem.Challenge.cw_chords_k10_sent_holds
