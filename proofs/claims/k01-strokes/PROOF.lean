import PyProof.Rows.All
import Wide.All
import OpenK.AllK
import Wide.FinOn
import KE.KStateDown
import HandS.ForMost
import HandS.ForSpec
import HandS.Codes
import HandS.IsInst
import HandS.Defaults
import HandS.TupAny
import HandS.Deep
import HandS.Conv
import HandS.TupLen
import HandS.Head0
import HandS.Head1
import HandS.Head2
import HandS.HeadEnd
import HandS.HeadHook1
import HandS.HeadHook2
import HandS.HeadHook3
import HandS.HeadHook4
import HandS.ExcOwn
import HandS.WordsExc
import HandS.ExcIs
import HandS.SetKeys
import PySem.Challenge.RW_chords_k01_strokes
set_option Elab.async false
set_option linter.all false
set_option maxRecDepth 100000
set_option maxHeartbeats 2000000
namespace Ch
open PySem PySem.Spec PyProof.Rows L2
def top (i : Nat) : Stmt := PySem.Challenge.pw_chords_k01_strokes.main.body.getD i (.Pass ⟨0, 0, 0, 0⟩)
/-! ### texts as lists of signs -/
abbrev S := SX.S
abbrev Tx := List Nat
theorem S_inj {a b : Tx} (h : S a = S b) : a = b := SX.S_inj h
theorem S_len (a : Tx) : (S a).length = a.length := SX.S_len a
theorem S_cat (a b : Tx) : S a ++ S b = S (a ++ b) := SX.S_cat a b
theorem str_inj {a b : Tx} : V.str (S a) = V.str (S b) ↔ a = b := ⟨fun h => S_inj (V.str.inj h), fun h => by rw [h]⟩
theorem S_toList (a : Tx) : (S a).cps.toList = a := rfl
theorem of_S (s : String) : Str.ofString s = S (s.toList.map Char.toNat) := Str.ofString_eq_toList s
theorem S_eq {a b : Tx} : S a = S b ↔ a = b := ⟨S_inj, fun h => by rw [h]⟩
theorem S_ne {a b : Tx} : (S a ≠ S b) ↔ a ≠ b := not_congr S_eq
theorem sg_eq (c : Nat) : ({ cps := #[c] } : Str) = S [c] := rfl
theorem lit_99_104_111_114_100_115_46_101_114_114_111_114_115 : Str.ofString "chords.errors" = S [99, 104, 111, 114, 100, 115, 46, 101, 114, 114, 111, 114, 115] := by decide +kernel
theorem lit_99_104_111_114_100_115_46_107_101_121_115 : Str.ofString "chords.keys" = S [99, 104, 111, 114, 100, 115, 46, 107, 101, 121, 115] := by decide +kernel
theorem lit_97_98_99_100_101_102_103_104_105_106 : Str.ofString "abcdefghij" = S [97, 98, 99, 100, 101, 102, 103, 104, 105, 106] := by decide +kernel
theorem lit_108_97_119_95_99_104_111_114_100_115_95_107_48_49_95_115_116_114_111_107_101_115 : Str.ofString "law_chords_k01_strokes" = S [108, 97, 119, 95, 99, 104, 111, 114, 100, 115, 95, 107, 48, 49, 95, 115, 116, 114, 111, 107, 101, 115] := by decide +kernel
theorem lit_98_97_100 : Str.ofString "bad" = S [98, 97, 100] := by decide +kernel
theorem lit_110_111_32_107_101_121 : Str.ofString "no key" = S [110, 111, 32, 107, 101, 121] := by decide +kernel
theorem lit_110_111_32_110_117_109_98_101_114_32_111_102_32_97_32_115_116_114_111_107_101 : Str.ofString "no number of a stroke" = S [110, 111, 32, 110, 117, 109, 98, 101, 114, 32, 111, 102, 32, 97, 32, 115, 116, 114, 111, 107, 101] := by decide +kernel
theorem lit_ : Str.ofString "" = S [] := by decide +kernel
theorem lit_110_111_32_115_116_114_111_107_101 : Str.ofString "no stroke" = S [110, 111, 32, 115, 116, 114, 111, 107, 101] := by decide +kernel
theorem lit_97_98_99_100_101_102_103_104_105_106_107_65_47_32_49 : Str.ofString "abcdefghijkA/ 1" = S [97, 98, 99, 100, 101, 102, 103, 104, 105, 106, 107, 65, 47, 32, 49] := by decide +kernel
theorem size_le {n : Nat} (h : n ≤ 1000000) : n ≤ sizeLine := Nat.le_trans h (by decide)
theorem size_lt {n : Nat} (h : n < 1000000) : n < sizeLine := Nat.lt_of_lt_of_le h (by decide)
theorem gCons_eq {g : TG} {t : TGs} {x : V} {r : List V} {σ : L2.St} {H : Hp} {Q : L2.St → Hp → Prop} : gCons g t (x :: r) σ H Q = g x σ H fun σ1 H1 => t r σ1 H1 Q := by
  unfold gCons
  apply propext
  constructor
  · rintro ⟨v, r', e, q⟩
    cases e
    exact q
  · exact fun q => ⟨_, _, rfl, q⟩
theorem gNil_eq {σ : L2.St} {H : Hp} {Q : L2.St → Hp → Prop} : gNil [] σ H Q = Q σ H := by
  unfold gNil
  exact propext ⟨fun q => q.2, fun q => ⟨rfl, q⟩⟩
theorem tCallS_eq {sp : Sp} {E : L2.St → XK} {t : TA} {σ : L2.St} {H : Hp} {Q : VK} : tCallS sp E t σ H Q = t σ H fun vs H1 => sp vs H1 Q (E σ) := rfl
/-! ### heaps -/
theorem same_new {H : Hp} {p : Addr} {o : HO} (h : H p = none) : Same H (upd H p o) := fun b x e => by
  rw [upd_ne (ne_of_none e h)]
  exact e
theorem same_mut {H H' : Hp} {p : Addr} {o : HO} (e : Same H H') (h : H p = none) : Same H (upd H' p o) := fun a u ha => by
  rw [upd_ne (ne_of_none ha h)]
  exact e a u ha
theorem sq_of {K : PySem.W.Frag} {H : Hp} {a : Addr} {xs : List V} (h : H a = some (.lst xs)) : SqL K H a xs := .inl (.inl h)
theorem st_of {K : PySem.W.Frag} {H : Hp} {a : Addr} {xs : List V} (h : H a = some (.tup xs)) : SqT K H a xs := .inl (.inl h)
theorem same_t {K : PySem.W.Frag} {H H' : Hp} {a : Addr} {xs : List V} (e : Same H H') (h : SqT K H a xs) : SqT K H' a xs := by
  rcases h with (h | ⟨o, h⟩) | h
  · exact .inl (.inl (e _ _ h))
  · exact .inl (.inr ⟨o, e _ _ h⟩)
  · exact .inr h
theorem same_l {K : PySem.W.Frag} {H H' : Hp} {a : Addr} {xs : List V} (e : Same H H') (h : SqL K H a xs) : SqL K H' a xs := e.seq h
theorem Dp.ext {K : PySem.W.Frag} {H H' : Hp} (e : Same H H') {v : V} {d : PyData} (h : Dp K H v d) : Dp K H' v d := by
  refine Dp.rec (motive_1 := fun v d _ => Dp K H' v d) (motive_2 := fun vs ds _ => DpAll K H' vs ds) ?_ ?_ ?_ ?_ ?_ ?_ ?_ ?_ h
  · exact .non
  · exact .bl
  · exact .int
  · exact .str
  · intro a xs ds hs _ ih
    exact .lst (same_l e hs) ih
  · intro a xs ds hs _ ih
    exact .tup (same_t e hs) ih
  · exact .nil
  · intro v vs d ds _ _ h1 h2
    exact .cons h1 h2
theorem DpAll.ext {K : PySem.W.Frag} {H H' : Hp} (e : Same H H') : ∀ {vs : List V} {ds : List PyData}, DpAll K H vs ds → DpAll K H' vs ds
  | _, _, .nil => .nil
  | _, _, .cons h t => .cons (Dp.ext e h) (DpAll.ext e t)
theorem DpAll.len {K : PySem.W.Frag} {H : Hp} : ∀ {vs : List V} {ds : List PyData}, DpAll K H vs ds → vs.length = ds.length
  | _, _, .nil => rfl
  | _, _, .cons _ t => congrArg (· + 1) (DpAll.len t)
theorem DpAll.get {K : PySem.W.Frag} {H : Hp} : ∀ {vs : List V} {ds : List PyData} {i : Nat} {d : PyData}, DpAll K H vs ds → ds[i]? = some d → ∃ v, vs[i]? = some v ∧ Dp K H v d
  | _, _, _, _, .nil, h => by simp at h
  | _, _, 0, _, .cons h _, e => by
    simp at e
    subst e
    exact ⟨_, rfl, h⟩
  | _, _, i + 1, _, .cons _ t, e => by
    obtain ⟨v, h1, h2⟩ := DpAll.get (i := i) t (by simpa using e)
    exact ⟨v, by simpa using h1, h2⟩
theorem DpAll.app {K : PySem.W.Frag} {H : Hp} : ∀ {vs ws : List V} {ds es : List PyData}, DpAll K H vs ds → DpAll K H ws es → DpAll K H (vs ++ ws) (ds ++ es)
  | _, _, _, _, .nil, h => h
  | _, _, _, _, .cons a t, h => .cons a (DpAll.app t h)
theorem dp_int {K : PySem.W.Frag} {H : Hp} {v : V} {i : Int} (h : Dp K H v (.int i)) : v = .int i := by cases h; rfl
theorem dp_str {K : PySem.W.Frag} {H : Hp} {v : V} {x : Str} (h : Dp K H v (.str x)) : v = .str x := by cases h; rfl
theorem dp_bl {K : PySem.W.Frag} {H : Hp} {v : V} {b : Bool} (h : Dp K H v (.bool b)) : v = .bl b := by cases h; rfl
theorem dp_non {K : PySem.W.Frag} {H : Hp} {v : V} (h : Dp K H v .none) : v = .non := by cases h; rfl
theorem dp_tup {K : PySem.W.Frag} {H : Hp} {v : V} {ds : List PyData} (h : Dp K H v (.tuple ds)) : ∃ a xs, v = .ref a ∧ SqT K H a xs ∧ DpAll K H xs ds := by
  cases h with
  | tup h1 h2 => exact ⟨_, _, rfl, h1, h2⟩
theorem dp_lst {K : PySem.W.Frag} {H : Hp} {v : V} {ds : List PyData} (h : Dp K H v (.list ds)) : ∃ a xs, v = .ref a ∧ SqL K H a xs ∧ DpAll K H xs ds := by
  cases h with
  | lst h1 h2 => exact ⟨_, _, rfl, h1, h2⟩
theorem dp_ints {K : PySem.W.Frag} {H : Hp} : ∀ ns : List Int, DpAll K H (ns.map V.int) (ns.map PyData.int)
  | [] => .nil
  | n :: r => .cons (.int n) (dp_ints r)
theorem dp_strs {K : PySem.W.Frag} {H : Hp} : ∀ ns : List Str, DpAll K H (ns.map V.str) (ns.map PyData.str)
  | [] => .nil
  | n :: r => .cons (.str n) (dp_strs r)
theorem shaped_ints (ns : List Int) : SeqAt.shaped (.list (ns.map PyData.int)) = true := by
  have h1 : ∀ ns : List Int, PyData.canLayAll0 (ns.map PyData.int) = true := fun ns => by
    induction ns with
    | nil => rfl
    | cons n r ih => simp only [List.map_cons, PyData.canLayAll0, PyData.canLay0, ih, Bool.and_true]
  have h2 : ∀ ns : List Int, PyData.depthAll (ns.map PyData.int) = 0 := fun ns => by
    induction ns with
    | nil => rfl
    | cons n r ih => simp only [List.map_cons, PyData.depthAll, PyData.depth, ih, Nat.max_self]
  simp only [SeqAt.shaped, PyData.canLay0, h1, PyData.depth, h2, Bool.true_and, decide_eq_true_eq]
  decide
theorem eqv_nil (ds : List PyData) : PyData.eqv (.list ds) (.list []) = ds.isEmpty := by
  cases ds with
  | nil => simp only [PyData.eqv, PyData.eqvAll, List.isEmpty_nil]
  | cons d r => simp only [PyData.eqv, PyData.eqvAll, List.isEmpty_cons]
/-- the tuples stay -/
def KT (G G' : Hp) : Prop := ∀ a xs, Rd G a (.tup xs) → Rd G' a (.tup xs)
theorem KT.of {G G' : Hp} (e : Same G G') : KT G G' := fun a xs h => by
  rcases h with h | ⟨o, h⟩
  · exact .inl (e _ _ h)
  · exact .inr ⟨o, e _ _ h⟩
theorem KT.refl (G : Hp) : KT G G := fun _ _ h => h
theorem KT.trans {G G1 G2 : Hp} (a : KT G G1) (b : KT G1 G2) : KT G G2 := fun p xs h => b p xs (a p xs h)
theorem KT.put {G : Hp} {p : Addr} {o o' : HO} (h : G p = some o) (h1 : ∀ xs, o ≠ .tup xs) (h2 : ∀ u xs, o ≠ .frz u (.tup xs)) : KT G (upd G p o') := fun a xs q => by
  rcases q with q | ⟨u, q⟩
  · exact .inl (by rw [upd_ne (fun e => h1 xs (by rw [e, h] at q; exact Option.some.inj q))]; exact q)
  · exact .inr ⟨u, by rw [upd_ne (fun e => h2 u xs (by rw [e, h] at q; exact Option.some.inj q))]; exact q⟩
theorem KT.putL {G : Hp} {p : Addr} {xs : List V} {o' : HO} (h : G p = some (.lst xs)) : KT G (upd G p o') := KT.put h (fun _ q => by cases q) fun _ _ q => by cases q
theorem KT.sq {K : PySem.W.Frag} {G G' : Hp} {a : Addr} {xs : List V} (e : KT G G') (h : SqT K G a xs) : SqT K G' a xs := by
  rcases h with h | h
  · exact .inl (e _ _ h)
  · exact .inr h
mutual
/-- data without lists -/
def noL : PyData → Bool
  | .none | .bool _ | .int _ | .str _ => true
  | .tuple ds => noLs ds
  | .list _ | .dict _ => false
def noLs : List PyData → Bool
  | [] => true
  | d :: r => noL d && noLs r
end
theorem Dp.kt {K : PySem.W.Frag} {H H' : Hp} (e : KT H H') {v : V} {d : PyData} (n : noL d = true) (h : Dp K H v d) : Dp K H' v d := by
  refine Dp.rec (motive_1 := fun v d _ => noL d = true → Dp K H' v d) (motive_2 := fun vs ds _ => noLs ds = true → DpAll K H' vs ds) ?_ ?_ ?_ ?_ ?_ ?_ ?_ ?_ h n
  · exact fun _ => .non
  · exact fun b _ => .bl b
  · exact fun i _ => .int i
  · exact fun x _ => .str x
  · intro a xs ds hs _ ih n
    simp only [noL, Bool.false_eq_true] at n
  · intro a xs ds hs _ ih n
    simp only [noL] at n
    exact .tup (e.sq hs) (ih n)
  · exact fun _ => .nil
  · intro v vs d ds _ _ h1 h2 n
    simp only [noLs, Bool.and_eq_true] at n
    exact .cons (h1 n.1) (h2 n.2)
theorem DpAll.kt {K : PySem.W.Frag} {H H' : Hp} (e : KT H H') : ∀ {vs : List V} {ds : List PyData}, noLs ds = true → DpAll K H vs ds → DpAll K H' vs ds
  | _, _, _, .nil => .nil
  | _, _, n, .cons h t => by
    simp only [noLs, Bool.and_eq_true] at n
    exact .cons (Dp.kt e n.1 h) (DpAll.kt e n.2 t)
/-- data that == and the laws' comparison read: no dict, less than so deep, texts of plain signs -/
def okD : Nat → PyData → Prop
  | 0, _ => False
  | _ + 1, .none => True
  | _ + 1, .bool _ => True
  | _ + 1, .int _ => True
  | _ + 1, .str x => PyData.strOk x = true
  | n + 1, .list ds => ds.length ≤ 100000 ∧ ∀ d ∈ ds, okD n d
  | n + 1, .tuple ds => ds.length ≤ 100000 ∧ ∀ d ∈ ds, okD n d
  | _ + 1, .dict _ => False
theorem okD.mono : ∀ {n : Nat} {d : PyData}, okD n d → okD (n + 1) d
  | 0, _, h => h.elim
  | _ + 1, .none, _ => trivial
  | _ + 1, .bool _, _ => trivial
  | _ + 1, .int _, _ => trivial
  | _ + 1, .str _, h => h
  | _ + 1, .list _, h => ⟨h.1, fun d hd => okD.mono (h.2 d hd)⟩
  | _ + 1, .tuple _, h => ⟨h.1, fun d hd => okD.mono (h.2 d hd)⟩
  | _ + 1, .dict _, h => h.elim
theorem okD.le {n m : Nat} {d : PyData} (h : okD n d) (l : n ≤ m) : okD m d := by
  induction l with
  | refl => exact h
  | step _ ih => exact ih.mono
theorem lay_all {p : PyData → Bool} : ∀ ds : List PyData, (∀ d ∈ ds, PyData.canLay0 d = true) → PyData.canLayAll0 ds = true
  | [], _ => rfl
  | d :: r, h => by
    simp only [PyData.canLayAll0, Bool.and_eq_true]
    exact ⟨h d List.mem_cons_self, lay_all (p := p) r fun e he => h e (List.mem_cons_of_mem _ he)⟩
theorem depth_all {n : Nat} : ∀ ds : List PyData, (∀ d ∈ ds, PyData.depth d ≤ n) → PyData.depthAll ds ≤ n
  | [], _ => Nat.zero_le _
  | d :: r, h => by
    simp only [PyData.depthAll]
    exact Nat.max_le.mpr ⟨h d List.mem_cons_self, depth_all r fun e he => h e (List.mem_cons_of_mem _ he)⟩
theorem okD.lay : ∀ {n : Nat} {d : PyData}, okD n d → PyData.canLay0 d = true ∧ PyData.depth d ≤ n
  | 0, _, h => h.elim
  | _ + 1, .none, _ => ⟨rfl, Nat.zero_le _⟩
  | _ + 1, .bool _, _ => ⟨rfl, Nat.zero_le _⟩
  | _ + 1, .int _, _ => ⟨rfl, Nat.zero_le _⟩
  | _ + 1, .str _, h => ⟨h, Nat.zero_le _⟩
  | n + 1, .list ds, h => by
    simp only [PyData.canLay0, PyData.depth]
    exact ⟨lay_all (p := fun _ => true) ds fun d hd => (h.2 d hd).lay.1, Nat.succ_le_succ (depth_all ds fun d hd => (h.2 d hd).lay.2)⟩
  | n + 1, .tuple ds, h => by
    simp only [PyData.canLay0, PyData.depth]
    exact ⟨lay_all (p := fun _ => true) ds fun d hd => (h.2 d hd).lay.1, Nat.succ_le_succ (depth_all ds fun d hd => (h.2 d hd).lay.2)⟩
  | _ + 1, .dict _, h => h.elim
theorem okD.shaped {n : Nat} {d : PyData} (h : okD n d) (l : n ≤ 64) : SeqAt.shaped d = true := by
  obtain ⟨h1, h2⟩ := h.lay
  simp only [SeqAt.shaped, h1, Bool.true_and, decide_eq_true_eq]
  omega
def asc (t : Tx) : Prop := ∀ c ∈ t, c < 128
theorem asc_ok {t : Tx} (h : asc t) : PyData.strOk (S t) = true := by
  simp only [PyData.strOk]
  rw [← Array.all_toList, List.all_eq_true]
  intro c hc
  have := h c hc
  simp only [decide_eq_true_eq]
  omega
theorem asc_app {a b : Tx} (ha : asc a) (hb : asc b) : asc (a ++ b) := fun c hc => (List.mem_append.mp hc).elim (ha c) (hb c)
theorem asc_drop {a : Tx} (n : Nat) (ha : asc a) : asc (a.drop n) := fun c hc => ha c (List.mem_of_mem_drop hc)
theorem asc_take {a : Tx} (n : Nat) (ha : asc a) : asc (a.take n) := fun c hc => ha c (List.mem_of_mem_take hc)
/-! ### a def by its name -/
structure Cal (P : Program) (w : World) (K : PySem.W.Frag) (mg : Str → Option Value) (base : Heap) (CX : CXT) (k : Nat) (x : Str) (sp : Sp) : Prop where
  ex : ∃ (f : Addr) (fd : FuncData) (ps : List Str), FnOk P w K mg base CX k f fd ps sp ∧ mg x = some (.ref f) ∧ PySem.W.keepIn K (.ref f) = true ∧ Binds K fd ps []
section
variable {X : Cx} {k j : Nat} {x m : Str} {sp : Sp} {p pos apos : Pos} {e o : Expr} {es : List Expr} {ta : TE} {t : TA}
theorem pe_c (c : Cal X.prog X.w X.K X.mg X.base CX0 k x sp) (hr : Room j X.A) (hk : k ≤ j) (hg : Gl X x) (ha : PA X (e :: es) t)
    (hdb : (x == ("__debug__" : Str)) = false := by decide) (he : starEach (e :: es) X.env = (false, eval e X.env) :: starEach es X.env := by rfl) (hpl : (backTo pos (starEach es X.env)).any (·.1) = false := by rfl) :
    PE X (.Call (.Name x p) (e :: es) [] pos) (tCall sp [] E0 t) := by
  obtain ⟨f, fd, ps, F, hm, kp, b⟩ := c.ex
  exact pe_call F (hr.mono hk) hg hm kp b .nil pass0 ha hdb he hpl
theorem pe_gc {v : V} (hg : Gl X x) (h : ∃ u, X.mg x = some u ∧ RelV v u) (hd : (x == ("__debug__" : Str)) = false := by decide) : PE X (.Name x pos) (tC v) := by
  obtain ⟨u, hm, r⟩ := h
  exact pe_glob hg hm r hd
end
/-! ### the box of a script's numbers: G is all that is known beside it -/
def Bx (b : Addr) (G H : Hp) : Prop := Same G H ∧ G b = none ∧ ∃ (l : Addr) (ns : List Int) (s : Int), G l = none ∧ H b = some (.lst [.ref l, .int s]) ∧ H l = some (.lst (ns.map V.int)) ∧ 0 ≤ s ∧ s < 2147483647
theorem Bx.ex {b : Addr} {G H : Hp} (h : Bx b G H) : Same G H := h.1
theorem Bx.alloc {b p : Addr} {G H : Hp} {o : HO} (h : Bx b G H) (hp : H p = none) : Bx b (upd G p o) (upd H p o) := by
  obtain ⟨s0, gb, l, ns, s, gl, hb, hl, r⟩ := h
  have nb : b ≠ p := ne_of_none hb hp
  have nl : l ≠ p := ne_of_none hl hp
  refine ⟨fun a u e => ?_, by rw [upd_ne nb]; exact gb, l, ns, s, by rw [upd_ne nl]; exact gl, by rw [upd_ne nb]; exact hb, by rw [upd_ne nl]; exact hl, r⟩
  by_cases ha : a = p
  · subst ha
    rw [upd_same] at e ⊢
    exact e
  · rw [upd_ne ha] at e ⊢
    exact s0 a u e
theorem Bx.put {b p : Addr} {G H : Hp} {o o' : HO} (h : Bx b G H) (hp : G p = some o) : Bx b (upd G p o') (upd H p o') := by
  obtain ⟨s0, gb, l, ns, s, gl, hb, hl, r⟩ := h
  have nb : b ≠ p := (ne_of_none hp gb).symm
  have nl : l ≠ p := (ne_of_none hp gl).symm
  refine ⟨fun a u e => ?_, by rw [upd_ne nb]; exact gb, l, ns, s, by rw [upd_ne nl]; exact gl, by rw [upd_ne nb]; exact hb, by rw [upd_ne nl]; exact hl, r⟩
  by_cases ha : a = p
  · subst ha
    rw [upd_same] at e ⊢
    exact e
  · rw [upd_ne ha] at e ⊢
    exact s0 a u e
abbrev FunS (K : PySem.W.Frag) (x : Str) (st : Stmt) (f : Addr) (fd : FuncData) : Prop := FunD K x x (defArgs st) (defBody st) (defScope st) [] [] f fd
theorem cal_of {P : Program} {w : World} {K : PySem.W.Frag} {mg : Str → Option Value} {base : Heap} {CX : CXT} {k : Nat} {x : Str} {st : Stmt} {f : Addr} {fd : FuncData} {ps : List Str} {sp : Sp} (F : FunS K x st f fd) (ok : FnOk P w K mg base CX k f fd ps sp) (m : mg x = some (.ref f)) (b : Binds K fd ps []) :
    Cal P w K mg base CX k x sp := ⟨f, fd, ps, ok, m, F.kp, b⟩
theorem start2 {a b c : Str} {u v : V} : L2.start [a, b, c] [u, v] = [some u, some v, none] := rfl
theorem cxOf_K {CX : CXT} {P : Program} {w : World} {K : PySem.W.Frag} {mg : Str → Option Value} {base : Heap} {N : List Str} {qual : Str} {scope : Scope} {f : Addr} {cd : Value} {A : Around} {outer : List Env} {s : Shared} {H : Hp} {E : XK} :
    (cxOf CX P w K mg base N qual scope f cd A outer s H E).K = K := rfl
/-- a new object: the heap behind it by a letter -/
theorem al_ {H H1 : Hp} {p : Addr} {o : HO} (hp : H p = none) (e : upd H p o = H1) : Same H H1 ∧ H1 p = some o := by
  subst e
  exact ⟨same_new hp, upd_same⟩
theorem alB_ {b p : Addr} {G H H1 : Hp} {o : HO} (B : Bx b G H) (hp : H p = none) (e : upd H p o = H1) : ∃ G1, G p = none ∧ Same G G1 ∧ Bx b G1 H1 ∧ G1 p = some o := by
  subst e
  exact ⟨upd G p o, B.ex.free hp, same_new (B.ex.free hp), B.alloc hp, upd_same⟩
theorem at0 {α : Type} (x : α) (r : List α) : atI (x :: r) 0 = some x := atI_nat (j := 0) rfl
theorem at1 {α : Type} (x y : α) (r : List α) : atI (x :: y :: r) 1 = some y := atI_nat (j := 1) rfl
theorem ixn {n j : Nat} (h : j < n) : ixN n (j : Int) = some j := by
  unfold ixN
  rw [if_pos (by omega), if_pos (by omega)]
  simp
theorem ix0 (n : Nat) : ixN (n + 1) 0 = some 0 := ixn (j := 0) (by omega)
/-! ### loops -/
theorem drop_cons {α : Type} {xs : List α} {i : Nat} {x : α} (h : xs[i]? = some x) : xs.drop i = x :: xs.drop (i + 1) := by
  obtain ⟨h1, h2⟩ := List.getElem?_eq_some_iff.mp h
  rw [← h2]
  exact List.drop_eq_getElem_cons h1
/-- the turns of a for, once what it walks has come -/
def LoopP (J : It) (g : TG) (tb : TS) (D : Ends) (σ : L2.St) (H : Hp) : Prop := ∃ W : Nat → Nat → L2.St → Hp → Prop, (∃ m, W 0 m σ H) ∧ ∀ i m σ H, W i m σ H →
  (J.stop i H ∧ D.nx σ H) ∨ (J.go i H ∧ ∃ N : L2.St → Hp → Prop, (∀ σ' H', N σ' H' → ∃ m', m' < m ∧ W (i + 1) m' σ' H') ∧ ∀ x H', J.yld i H x H' → g x σ H' fun σ2 H2 => tb { D with nx := N, ct := N, bk := D.nx } σ2 H2)
theorem tFor_eq {wi : TI} {g : TG} {tb : TS} {D : Ends} {σ : L2.St} {H : Hp} : tFor wi g tb D σ H = wi σ H fun J H1 => LoopP J g tb D σ H1 := rfl
/-- the turns of a comprehension, L the new list -/
def CompP (J : It) (g : TG) (tt : TT) (te : TE) (vs : List Nat) (σ : L2.St) (L : Addr) (Q : VK) (H : Hp) : Prop := ∃ W : Nat → Nat → Hp → Prop, (∃ m, W 0 m H) ∧ ∀ i m H, W i m H →
  (J.stop i H ∧ Q (.ref L) H) ∨ (J.go i H ∧ ∃ Nx : Hp → Prop, (∀ H', Nx H' → ∃ m', m' < m ∧ W (i + 1) m' H') ∧ ∀ x H', J.yld i H x H' → g x (wipe σ vs) H' fun σ2 H2 => wipe σ2 vs = wipe σ vs ∧ tt σ2 H2 fun b H3 =>
    if b = true then te σ2 H3 fun y H4 => ∃ acc, H4 L = some (.lst acc) ∧ acc.length < sizeLine ∧ Nx (upd H4 L (.lst (acc ++ [y]))) else Nx H3)
theorem tLc_eq {wi : TI} {g : TG} {tt : TT} {te : TE} {vs : List Nat} {σ : L2.St} {H : Hp} {Q : VK} : tLc wi g tt te vs σ H Q = wi σ H fun J H1 => ∀ L, H1 L = none → CompP J g tt te vs σ L Q (upd H1 L (.lst [])) := rfl
theorem iList_eq {K : PySem.W.Frag} {te : TE} {σ : L2.St} {H : Hp} {R : It → Hp → Prop} : iList K te σ H R = te σ H fun v H1 => ∃ a, v = .ref a ∧ (∃ xs, SqL K H1 a xs) ∧ R (Itl K a) H1 := rfl
theorem iTup_eq {K : PySem.W.Frag} {te : TE} {σ : L2.St} {H : Hp} {R : It → Hp → Prop} : iTup K te σ H R = te σ H fun v H1 => ∃ a, v = .ref a ∧ (∃ xs, SqT K H1 a xs) ∧ R (Itt K a) H1 := rfl
theorem iRng1_eq {t : TA} {σ : L2.St} {H : Hp} {R : It → Hp → Prop} : iRng1 t σ H R = t σ H fun vs H1 => ∃ j : Int, vs = [.int j] ∧ -(2 ^ 62) ≤ j ∧ j < 2 ^ 62 ∧ R (Itr 0 j.toNat) H1 := rfl
theorem iStr_eq {te : TE} {σ : L2.St} {H : Hp} {R : It → Hp → Prop} : iStr te σ H R = te σ H fun v H1 => ∃ x, v = .str x ∧ R (Its x) H1 := rfl
section
variable {g : TG} {tb : TS} {D : Ends} {σ : L2.St} {H : Hp} {tt : TT} {te : TE} {vs : List Nat} {L : Addr} {Q : VK}
/-- over a list that stands: Pv by what is left -/
theorem loop_list {K : PySem.W.Frag} {a : Addr} (xs : List V) (Pv : List V → L2.St → Hp → Prop) (h0 : Pv xs σ H) (hl : ∀ r σ H, Pv r σ H → SqL K H a xs)
    (hs : ∀ x r σ H, Pv (x :: r) σ H → g x σ H fun σ2 H2 => tb { D with nx := Pv r, ct := Pv r, bk := D.nx } σ2 H2) (hd : ∀ σ H, Pv [] σ H → D.nx σ H) : LoopP (Itl K a) g tb D σ H :=
  for_list (fun i σ H => Pv (xs.drop i) σ H) h0 (fun i σ H _ q => hl _ _ _ q) (fun i x σ H e q => by
    rw [drop_cons e] at q
    exact hs x _ σ H q) fun σ H q => hd σ H (by rw [List.drop_length] at q; exact q)
theorem loop_tup {K : PySem.W.Frag} {a : Addr} (xs : List V) (Pv : List V → L2.St → Hp → Prop) (h0 : Pv xs σ H) (hl : ∀ r σ H, Pv r σ H → SqT K H a xs)
    (hs : ∀ x r σ H, Pv (x :: r) σ H → g x σ H fun σ2 H2 => tb { D with nx := Pv r, ct := Pv r, bk := D.nx } σ2 H2) (hd : ∀ σ H, Pv [] σ H → D.nx σ H) : LoopP (Itt K a) g tb D σ H :=
  for_tup (fun i σ H => Pv (xs.drop i) σ H) h0 (fun i σ H _ q => hl _ _ _ q) (fun i x σ H e q => by
    rw [drop_cons e] at q
    exact hs x _ σ H q) fun σ H q => hd σ H (by rw [List.drop_length] at q; exact q)
/-- over a range from 0, by the turn -/
theorem loop_range {n : Nat} (Pv : Nat → L2.St → Hp → Prop) (h0 : Pv 0 σ H)
    (hs : ∀ i σ H, i < n → Pv i σ H → g (.int i) σ H fun σ2 H2 => tb { D with nx := Pv (i + 1), ct := Pv (i + 1), bk := D.nx } σ2 H2) (hd : ∀ σ H, Pv n σ H → D.nx σ H) : LoopP (Itr 0 n) g tb D σ H :=
  for_range Pv h0 (fun i σ H hi p => by
    have e0 : (0 : Int) + (i : Int) = (i : Int) := Int.zero_add _
    rw [e0]
    exact hs i σ H hi p) hd
/-- over a text's signs -/
theorem loop_str (cs : Tx) (Pv : Tx → L2.St → Hp → Prop) (h0 : Pv cs σ H)
    (hs : ∀ c r σ H, Pv (c :: r) σ H → g (.str (S [c])) σ H fun σ2 H2 => tb { D with nx := Pv r, ct := Pv r, bk := D.nx } σ2 H2) (hd : ∀ σ H, Pv [] σ H → D.nx σ H) : LoopP (Its (S cs)) g tb D σ H := by
  refine ⟨fun i m σ H => m = cs.length - i ∧ i ≤ cs.length ∧ Pv (cs.drop i) σ H, ⟨cs.length, by simp, Nat.zero_le _, h0⟩, ?_⟩
  rintro i m σ H ⟨rfl, hi, p⟩
  have sz : (S cs).cps.size = cs.length := by simp
  by_cases hlt : i < cs.length
  · refine .inr ⟨by show i < (S cs).cps.size; omega, Pv (cs.drop (i + 1)), fun σ' H' p' => ⟨cs.length - (i + 1), by omega, rfl, hlt, p'⟩, fun x H' y => ?_⟩
    obtain ⟨e, c, e2, e3⟩ := y
    subst e e3
    have e4 : cs[i]? = some c := by
      rw [← e2]
      simp
    rw [drop_cons e4] at p
    exact hs c _ σ _ p
  · have e : i = cs.length := by omega
    subst e
    rw [List.drop_length] at p
    exact .inl ⟨by show (S cs).cps.size ≤ _; omega, hd σ H p⟩
/-- comprehensions: what stands behind a turn -/
def CNx (L : Addr) (i : Nat) (P : List V → Hp → Prop) (H : Hp) : Prop := ∃ acc, H L = some (.lst acc) ∧ acc.length ≤ i ∧ P acc H
theorem cput {i : Nat} {acc : List V} {y : V} {P : List V → Hp → Prop} (hL : H L = some (.lst acc)) (ha : acc.length ≤ i) (hi : i < 1000000) (h : P (acc ++ [y]) (upd H L (.lst (acc ++ [y])))) :
    ∃ acc, H L = some (.lst acc) ∧ acc.length < sizeLine ∧ CNx L (i + 1) P (upd H L (.lst (acc ++ [y]))) :=
  ⟨acc, hL, size_lt (by omega), acc ++ [y], upd_same, by rw [List.length_append, List.length_singleton]; omega, h⟩
theorem cskip {i : Nat} {acc : List V} {P : List V → Hp → Prop} (hL : H L = some (.lst acc)) (ha : acc.length ≤ i) (h : P acc H) : CNx L (i + 1) P H := ⟨acc, hL, by omega, h⟩
theorem comp_list {K : PySem.W.Frag} {a : Addr} (xs : List V) (Pv : List V → List V → Hp → Prop) (hz : xs.length ≤ 1000000) (h0 : Pv xs [] H) (hL0 : H L = some (.lst [])) (hl : ∀ r acc H, Pv r acc H → SqL K H a xs)
    (hs : ∀ i x r acc H, H L = some (.lst acc) → acc.length ≤ i → i < 1000000 → Pv (x :: r) acc H → g x (wipe σ vs) H fun σ2 H2 => wipe σ2 vs = wipe σ vs ∧ tt σ2 H2 fun b H3 =>
      if b = true then te σ2 H3 fun y H4 => ∃ acc, H4 L = some (.lst acc) ∧ acc.length < sizeLine ∧ CNx L (i + 1) (Pv r) (upd H4 L (.lst (acc ++ [y]))) else CNx L (i + 1) (Pv r) H3)
    (hd : ∀ acc H, H L = some (.lst acc) → acc.length ≤ xs.length → Pv [] acc H → Q (.ref L) H) : CompP (Itl K a) g tt te vs σ L Q H := by
  refine ⟨fun i m H => m = xs.length - i ∧ i ≤ xs.length ∧ CNx L i (Pv (xs.drop i)) H, ⟨xs.length, by simp, Nat.zero_le _, [], hL0, Nat.le_refl _, h0⟩, ?_⟩
  rintro i m H ⟨rfl, hi, acc, hA, hn, p⟩
  have q := hl _ _ _ p
  by_cases hlt : i < xs.length
  · refine .inr ⟨⟨xs, xs[i], q, by simp [hlt]⟩, CNx L (i + 1) (Pv (xs.drop (i + 1))), fun H' p' => ⟨xs.length - (i + 1), by omega, rfl, hlt, p'⟩, fun x H' y => ?_⟩
    obtain ⟨e, y⟩ := y
    subst e
    rw [drop_cons (y xs q)] at p
    exact hs i x _ acc _ hA hn (by omega) p
  · have e : i = xs.length := by omega
    subst e
    rw [List.drop_length] at p
    exact .inl ⟨⟨xs, q, Nat.le_refl _⟩, hd acc H hA hn p⟩
theorem comp_tup {K : PySem.W.Frag} {a : Addr} (xs : List V) (Pv : List V → List V → Hp → Prop) (hz : xs.length ≤ 1000000) (h0 : Pv xs [] H) (hL0 : H L = some (.lst [])) (hl : ∀ r acc H, Pv r acc H → SqT K H a xs)
    (hs : ∀ i x r acc H, H L = some (.lst acc) → acc.length ≤ i → i < 1000000 → Pv (x :: r) acc H → g x (wipe σ vs) H fun σ2 H2 => wipe σ2 vs = wipe σ vs ∧ tt σ2 H2 fun b H3 =>
      if b = true then te σ2 H3 fun y H4 => ∃ acc, H4 L = some (.lst acc) ∧ acc.length < sizeLine ∧ CNx L (i + 1) (Pv r) (upd H4 L (.lst (acc ++ [y]))) else CNx L (i + 1) (Pv r) H3)
    (hd : ∀ acc H, H L = some (.lst acc) → acc.length ≤ xs.length → Pv [] acc H → Q (.ref L) H) : CompP (Itt K a) g tt te vs σ L Q H := by
  refine ⟨fun i m H => m = xs.length - i ∧ i ≤ xs.length ∧ CNx L i (Pv (xs.drop i)) H, ⟨xs.length, by simp, Nat.zero_le _, [], hL0, Nat.le_refl _, h0⟩, ?_⟩
  rintro i m H ⟨rfl, hi, acc, hA, hn, p⟩
  have q := hl _ _ _ p
  by_cases hlt : i < xs.length
  · refine .inr ⟨⟨xs, xs[i], q, by simp [hlt]⟩, CNx L (i + 1) (Pv (xs.drop (i + 1))), fun H' p' => ⟨xs.length - (i + 1), by omega, rfl, hlt, p'⟩, fun x H' y => ?_⟩
    obtain ⟨e, y⟩ := y
    subst e
    rw [drop_cons (y xs q)] at p
    exact hs i x _ acc _ hA hn (by omega) p
  · have e : i = xs.length := by omega
    subst e
    rw [List.drop_length] at p
    exact .inl ⟨⟨xs, q, Nat.le_refl _⟩, hd acc H hA hn p⟩
theorem comp_str (cs : Tx) (Pv : Tx → List V → Hp → Prop) (hz : cs.length ≤ 1000000) (h0 : Pv cs [] H) (hL0 : H L = some (.lst []))
    (hs : ∀ i c r acc H, H L = some (.lst acc) → acc.length ≤ i → i < 1000000 → Pv (c :: r) acc H → g (.str (S [c])) (wipe σ vs) H fun σ2 H2 => wipe σ2 vs = wipe σ vs ∧ tt σ2 H2 fun b H3 =>
      if b = true then te σ2 H3 fun y H4 => ∃ acc, H4 L = some (.lst acc) ∧ acc.length < sizeLine ∧ CNx L (i + 1) (Pv r) (upd H4 L (.lst (acc ++ [y]))) else CNx L (i + 1) (Pv r) H3)
    (hd : ∀ acc H, H L = some (.lst acc) → acc.length ≤ cs.length → Pv [] acc H → Q (.ref L) H) : CompP (Its (S cs)) g tt te vs σ L Q H := by
  refine ⟨fun i m H => m = cs.length - i ∧ i ≤ cs.length ∧ CNx L i (Pv (cs.drop i)) H, ⟨cs.length, by simp, Nat.zero_le _, [], hL0, Nat.le_refl _, h0⟩, ?_⟩
  rintro i m H ⟨rfl, hi, acc, hA, hn, p⟩
  have sz : (S cs).cps.size = cs.length := by simp
  by_cases hlt : i < cs.length
  · refine .inr ⟨by show i < (S cs).cps.size; omega, CNx L (i + 1) (Pv (cs.drop (i + 1))), fun H' p' => ⟨cs.length - (i + 1), by omega, rfl, hlt, p'⟩, fun x H' y => ?_⟩
    obtain ⟨e, c, e2, e3⟩ := y
    subst e e3
    have e4 : cs[i]? = some c := by
      rw [← e2]
      simp
    rw [drop_cons e4] at p
    exact hs i c _ acc _ hA hn (by omega) p
  · have e : i = cs.length := by omega
    subst e
    rw [List.drop_length] at p
    exact .inl ⟨by show (S cs).cps.size ≤ _; omega, hd acc H hA hn p⟩
theorem comp_range {n : Nat} (Pv : Nat → List V → Hp → Prop) (hz : n ≤ 1000000) (h0 : Pv 0 [] H) (hL0 : H L = some (.lst []))
    (hs : ∀ i acc H, i < n → H L = some (.lst acc) → acc.length ≤ i → i < 1000000 → Pv i acc H → g (.int i) (wipe σ vs) H fun σ2 H2 => wipe σ2 vs = wipe σ vs ∧ tt σ2 H2 fun b H3 =>
      if b = true then te σ2 H3 fun y H4 => ∃ acc, H4 L = some (.lst acc) ∧ acc.length < sizeLine ∧ CNx L (i + 1) (Pv (i + 1)) (upd H4 L (.lst (acc ++ [y]))) else CNx L (i + 1) (Pv (i + 1)) H3)
    (hd : ∀ acc H, H L = some (.lst acc) → acc.length ≤ n → Pv n acc H → Q (.ref L) H) : CompP (Itr 0 n) g tt te vs σ L Q H := by
  refine ⟨fun i m H => m = n - i ∧ i ≤ n ∧ CNx L i (Pv i) H, ⟨n, by simp, Nat.zero_le _, [], hL0, Nat.le_refl _, h0⟩, ?_⟩
  rintro i m H ⟨rfl, hi, acc, hA, hn, p⟩
  by_cases hlt : i < n
  · refine .inr ⟨hlt, CNx L (i + 1) (Pv (i + 1)), fun H' p' => ⟨n - (i + 1), by omega, rfl, hlt, p'⟩, fun x H' y => ?_⟩
    obtain ⟨e, e2⟩ := y
    subst e e2
    have e0 : (0 : Int) + (i : Int) = (i : Int) := Int.zero_add _
    rw [e0]
    exact hs i acc _ hlt hA hn (by omega) p
  · have e : i = n := by omega
    subst e
    exact .inl ⟨Nat.le_refl _, hd acc H hA hn p⟩
/-- a comprehension over a range whose element draws: each item as P says -/
theorem comp_draw {n j : Nat} {b : Addr} {G : Hp} (P : V → Hp → Prop) (mono : ∀ v G G', KT G G' → P v G → P v G') (hz : n ≤ 1000000) (B : Bx b G H) (hL : H L = none)
    (hw : ∀ x, wipe ((wipe σ vs).set j (some x)) vs = wipe σ vs)
    (hs : ∀ (i : Nat) G' H' (Q' : VK), i < n → Same G G' → Bx b G' H' → (∀ v G2 H2, Same G' G2 → Bx b G2 H2 → P v G2 → Q' v H2) → te ((wipe σ vs).set j (some (.int i))) H' Q')
    (hd : ∀ acc G' H', Same G G' → Bx b G' H' → G' L = some (.lst acc) → acc.length = n → (∀ v ∈ acc, P v G') → Q (.ref L) H') : CompP (Itr 0 n) (gName j) tYes te vs σ L Q (upd H L (.lst [])) := by
  have B0 := B.alloc (o := .lst []) hL
  have gl : G L = none := B.ex.free hL
  refine comp_range (fun i acc H' => acc.length = i ∧ ∃ G', Same G G' ∧ Bx b G' H' ∧ G' L = some (.lst acc) ∧ ∀ v ∈ acc, P v G') hz ⟨rfl, _, same_new gl, B0, upd_same, fun _ h => nomatch h⟩ upd_same ?_ ?_
  · rintro i acc H' hi hA hn hi2 ⟨hlen, G', s1, B1, hl, hp⟩
    show _ ∧ te _ _ _
    refine ⟨hw _, hs i G' H' _ hi s1 B1 fun v G2 H2 s2 B2 pv => ?_⟩
    have hl2 := s2 _ _ hl
    refine cput (B2.ex _ _ hl2) hn hi2 ⟨by rw [List.length_append, List.length_singleton, hlen], _, same_mut (s1.trans s2) gl, B2.put hl2, upd_same, fun u hu => ?_⟩
    have kt : KT G2 (upd G2 L (.lst (acc ++ [v]))) := KT.put hl2 (by intro xs q; cases q) (by intro o xs q; cases q)
    rcases List.mem_append.mp hu with h | h
    · exact mono _ _ _ kt (mono _ _ _ (KT.of s2) (hp u h))
    · rw [List.mem_singleton.mp h]
      exact mono _ _ _ kt pv
  · rintro acc H' hA hn ⟨hlen, G', s1, B1, hl, hp⟩
    exact hd acc G' H' s1 B1 hl hlen hp
/-- while, by a number that falls -/
theorem loop_while {c : TT} (Pv : Nat → L2.St → Hp → Prop) (m0 : Nat) (h0 : Pv m0 σ H)
    (hs : ∀ m σ H, Pv m σ H → c σ H fun b H1 => if b = true then ∃ m', m' < m ∧ tb { D with nx := Pv m', ct := Pv m', bk := D.nx } σ H1 else D.nx σ H1)
    (mono : ∀ σ H Q Q', (∀ b H1, Q b H1 → Q' b H1) → c σ H Q → c σ H Q') : tWhile c tb D σ H := by
  refine ⟨Pv, ⟨m0, h0⟩, fun m σ H p => ?_⟩
  refine mono σ H _ _ (fun b H1 q => ?_) (hs m σ H p)
  cases b with
  | true =>
    obtain ⟨m', l, q⟩ := q
    exact ⟨Pv m', fun σ' H' p' => ⟨m', l, p'⟩, q⟩
  | false => exact q
end
/-! ### tests whose answer is known -/
theorem vT {A B : Prop} (h : A) : ∃ c, V.bl true = V.bl c ∧ if c = true then A else B := ⟨true, rfl, by rw [if_pos rfl]; exact h⟩
theorem vF {A B : Prop} (h : B) : ∃ c, V.bl false = V.bl c ∧ if c = true then A else B := ⟨false, rfl, by rw [if_neg (fun z => nomatch z)]; exact h⟩
theorem nT {A B : Prop} (h : B) : ∃ c, V.bl true = V.bl c ∧ if c = false then A else B := ⟨true, rfl, by rw [if_neg (fun z => nomatch z)]; exact h⟩
theorem nF {A B : Prop} (h : A) : ∃ c, V.bl false = V.bl c ∧ if c = false then A else B := ⟨false, rfl, by rw [if_pos rfl]; exact h⟩
theorem start1_3 {a b c : Str} {u : V} : L2.start [a, b, c] [u] = [some u, none, none] := rfl
/-! ### slices -/
def cutL {α : Type} (l : List α) (lo hi : Option Int) : List α := (l.drop (HT.sIx l.length 0 lo)).take (HT.sIx l.length l.length hi - HT.sIx l.length 0 lo)
theorem cutS_S (l : Tx) (lo hi : Option Int) : cutS (S l) lo hi = S (cutL l lo hi) := by
  unfold cutS cutL
  rw [S_len]
theorem cutV_L (l : List V) (lo hi : Option Int) : cutV l lo hi = cutL l lo hi := rfl
theorem cutL_from {α : Type} (l : List α) (k : Nat) : cutL l (some (k : Int)) none = l.drop k := by
  unfold cutL
  rw [HT.sIx_nat, HT.sIx_none]
  by_cases h : k ≤ l.length
  · rw [Nat.min_eq_left h, List.take_of_length_le (by rw [List.length_drop]; omega)]
  · rw [Nat.min_eq_right (by omega), List.drop_length, List.drop_of_length_le (by omega), List.take_nil]
theorem cutL_to {α : Type} (l : List α) (k : Nat) : cutL l none (some (k : Int)) = l.take k := by
  unfold cutL
  rw [HT.sIx_nat, HT.sIx_none, List.drop_zero, Nat.sub_zero]
  by_cases h : k ≤ l.length
  · rw [Nat.min_eq_left h]
  · rw [Nat.min_eq_right (by omega), List.take_length, List.take_of_length_le (by omega)]
theorem cutL_mid {α : Type} (l : List α) (i j : Nat) : cutL l (some (i : Int)) (some (j : Int)) = (l.take j).drop i := by
  unfold cutL
  rw [HT.sIx_nat, HT.sIx_nat, List.drop_take]
  by_cases h : i ≤ l.length
  · rw [Nat.min_eq_left h]
    by_cases h2 : j ≤ l.length
    · rw [Nat.min_eq_left h2]
    · rw [Nat.min_eq_right (by omega), List.take_of_length_le (by rw [List.length_drop]; omega), List.take_of_length_le (by rw [List.length_drop]; omega)]
  · rw [Nat.min_eq_right (by omega : l.length ≤ i), List.drop_length, List.drop_of_length_le (by omega : l.length ≤ i)]
    simp
theorem sIx_neg {n d : Nat} {v : Int} (h : v < 0) : HT.sIx n d (some v) = (v + (n : Int)).toNat := by
  show (if v < 0 then _ else _) = _
  rw [if_pos h]
/-- l[:-1] -/
theorem cutL_init {α : Type} (l : List α) : cutL l none (some (-1)) = l.dropLast := by
  unfold cutL
  rw [sIx_neg (by decide), HT.sIx_none, List.drop_zero, Nat.sub_zero, List.dropLast_eq_take]
  congr 1
  omega
/-- l[-1:] -/
theorem cutL_last {α : Type} (l : List α) : cutL l (some (-1)) none = l.drop (l.length - 1) := by
  unfold cutL
  rw [sIx_neg (by decide), HT.sIx_none]
  have e : (-1 + (l.length : Int)).toNat = l.length - 1 := by omega
  rw [e, List.take_of_length_le (by rw [List.length_drop]; omega)]
/-- l[1:-1] -/
theorem cutL_in {α : Type} (l : List α) : cutL l (some 1) (some (-1)) = (l.drop 1).dropLast := by
  unfold cutL
  have e1 : HT.sIx l.length 0 (some 1) = min 1 l.length := HT.sIx_nat _ _ 1
  rw [sIx_neg (by decide), e1, List.dropLast_eq_take, List.length_drop]
  have e : (-1 + (l.length : Int)).toNat = l.length - 1 := by omega
  rw [e]
  cases l with
  | nil => rfl
  | cons a r =>
    have e2 : min 1 (a :: r).length = 1 := by rw [List.length_cons]; omega
    rw [e2]
theorem atI_neg {α : Type} (l : List α) (k : Nat) (h0 : 0 < k) (h : k ≤ l.length) : atI l (-(k : Int)) = l[l.length - k]? := by
  unfold atI ixN
  rw [if_neg (by omega), if_pos (by omega)]
  show l[(-(k : Int) + (l.length : Int)).toNat]? = _
  have e : (-(k : Int) + (l.length : Int)).toNat = l.length - k := by omega
  rw [e]
/-- while, by a number that falls, the test told -/
theorem loop_whileP {c : TT} {tb : TS} {D : Ends} {σ : L2.St} {H : Hp} (Pv : Nat → L2.St → Hp → Prop) (m0 : Nat) (h0 : Pv m0 σ H)
    (hs : ∀ m σ H, Pv m σ H → ∃ b, (∀ R : Bool → Hp → Prop, R b H → c σ H R) ∧ if b = true then ∃ m', m' < m ∧ tb { D with nx := Pv m', ct := Pv m', bk := D.nx } σ H else D.nx σ H) : tWhile c tb D σ H := by
  refine ⟨Pv, ⟨m0, h0⟩, fun m σ H p => ?_⟩
  obtain ⟨b, hb, q⟩ := hs m σ H p
  refine hb _ ?_
  cases b with
  | true =>
    obtain ⟨m', l, q⟩ := q
    exact ⟨Pv m', fun σ' H' p' => ⟨m', l, p'⟩, q⟩
  | false => exact q
theorem start2_3 {a b c : Str} {u v : V} : L2.start [a, b, c] [u, v] = [some u, some v, none] := rfl
theorem start1_8 {a b c d e f g h : Str} {u : V} : L2.start [a, b, c, d, e, f, g, h] [u] = [some u, none, none, none, none, none, none, none] := rfl
theorem start1_1 {a : Str} {u : V} : L2.start [a] [u] = [some u] := rfl
theorem start1_2 {a b : Str} {u : V} : L2.start [a, b] [u] = [some u, none] := rfl
theorem start1_4 {a b c d : Str} {u : V} : L2.start [a, b, c, d] [u] = [some u, none, none, none] := rfl
/-- an if whose test gives b and changes nothing -/
theorem if_pure {t : TT} {u v : TS} {D : Ends} {σ : L2.St} {H : Hp} (b : Bool) (ht : ∀ R : Bool → Hp → Prop, R b H → t σ H R) (h1 : b = true → u D σ H) (h2 : b = false → v D σ H) : tIfS t u v D σ H := by
  refine ht _ ?_
  cases b with
  | true => exact h1 rfl
  | false => exact h2 rfl
/-- .. and may make new objects -/
theorem if_new {t : TT} {u v : TS} {D : Ends} {σ : L2.St} {H : Hp} (b : Bool) (ht : ∀ R : Bool → Hp → Prop, (∀ H', Same H H' → R b H') → t σ H R) (h1 : b = true → ∀ H', Same H H' → u D σ H') (h2 : b = false → ∀ H', Same H H' → v D σ H') : tIfS t u v D σ H := by
  refine ht _ fun H' s => ?_
  cases b with
  | true => exact h1 rfl H' s
  | false => exact h2 rfl H' s
theorem inV_S (x : Tx) (ts : List Tx) : inV (.str (S x)) (ts.map fun t => .str (S t)) = ts.contains x := by
  induction ts with
  | nil => rfl
  | cons t r ih =>
    have e : inV (.str (S x)) ((t :: r).map fun t => .str (S t)) = ((S t == S x) || inV (.str (S x)) (r.map fun t => .str (S t))) := rfl
    rw [e, ih, SX.S_beq, List.contains_cons]
    congr 1
    rw [Bool.eq_iff_iff, beq_iff_eq, beq_iff_eq]
    exact eq_comm
theorem cutL_toneg {α : Type} (l : List α) (k : Nat) (h0 : 0 < k) : cutL l none (some (-(k : Int))) = l.take (l.length - k) := by
  unfold cutL
  rw [sIx_neg (by omega), HT.sIx_none, List.drop_zero, Nat.sub_zero]
  congr 1
  omega
theorem cutL_fromneg {α : Type} (l : List α) (k : Nat) (h0 : 0 < k) : cutL l (some (-(k : Int))) none = l.drop (l.length - k) := by
  unfold cutL
  rw [sIx_neg (by omega), HT.sIx_none]
  have e : (-(k : Int) + (l.length : Int)).toNat = l.length - k := by omega
  rw [e, List.take_of_length_le (by rw [List.length_drop]; omega)]
theorem cutL_negs {α : Type} (l : List α) (i j : Nat) (h0 : 0 < i) (h1 : 0 < j) : cutL l (some (-(i : Int))) (some (-(j : Int))) = (l.take (l.length - j)).drop (l.length - i) := by
  unfold cutL
  rw [sIx_neg (by omega), sIx_neg (by omega), List.drop_take]
  have e : (-(i : Int) + (l.length : Int)).toNat = l.length - i := by omega
  have e2 : (-(j : Int) + (l.length : Int)).toNat = l.length - j := by omega
  rw [e, e2]
theorem start2_4 {a b c d : Str} {u v : V} : L2.start [a, b, c, d] [u, v] = [some u, some v, none, none] := rfl
theorem start2_9 {a b c d e f g h i : Str} {u v : V} : L2.start [a, b, c, d, e, f, g, h, i] [u, v] = [some u, some v, none, none, none, none, none, none, none] := rfl
theorem in_tup {K : PySem.W.Frag} (neg : Bool) (x : Tx) (ts : List Tx) {H : Hp} {Q : V → Hp → Prop} {p : Addr} (hp : H p = none) (q : ∀ H', Same H H' → Q (.bl (if neg then !ts.contains x else ts.contains x)) H') : rIn K neg (.str (S x)) (.ref p) (upd H p (.tup (ts.map fun t => .str (S t)))) Q := by
  refine ⟨p, _, rfl, .inr (st_of upd_same), rfl, ?_, ?_⟩
  · rw [List.all_map]
    exact List.all_eq_true.mpr fun _ _ => rfl
  · rw [inV_S]
    exact q _ (same_new hp)
theorem in_lst {K : PySem.W.Frag} (neg : Bool) (x : Tx) (ts : List Tx) {H : Hp} {Q : V → Hp → Prop} {p : Addr} (hp : H p = none) (q : ∀ H', Same H H' → Q (.bl (if neg then !ts.contains x else ts.contains x)) H') : rIn K neg (.str (S x)) (.ref p) (upd H p (.lst (ts.map fun t => .str (S t)))) Q := by
  refine ⟨p, _, rfl, .inl (sq_of upd_same), rfl, ?_, ?_⟩
  · rw [List.all_map]
    exact List.all_eq_true.mpr fun _ _ => rfl
  · rw [inV_S]
    exact q _ (same_new hp)
theorem in_lst' {K : PySem.W.Frag} (neg : Bool) (x : Tx) (ts : List Tx) {H : Hp} {Q : V → Hp → Prop} {p : Addr} (hp : H p = some (.lst (ts.map fun t => .str (S t)))) (q : Q (.bl (if neg then !ts.contains x else ts.contains x)) H) : rIn K neg (.str (S x)) (.ref p) H Q := by
  refine ⟨p, _, rfl, .inl (sq_of hp), rfl, ?_, ?_⟩
  · rw [List.all_map]
    exact List.all_eq_true.mpr fun _ _ => rfl
  · rw [inV_S]
    exact q
theorem inK {X : Cx} {K : PySem.W.Frag} {c : Value → Value → Sem Value} {neg : Bool} (o : OpR X c (rIn X.K neg)) (e : X.K = K) : OpR X c (rIn K neg) := e ▸ o
theorem deepK {X : Cx} {K : PySem.W.Frag} {c : Value → Value → Sem Value} {r : PySem.W.Frag → R2} (o : OpR X c (r X.K)) (e : X.K = K) : OpR X c (r K) := e ▸ o
/-- an if whose ends meet again: M what stands then -/
theorem if_fin {t : TT} {u v : TS} {D : Ends} {σ : L2.St} {H : Hp} (M : L2.St → Hp → Prop) (fin : ∀ σ' H', M σ' H' → D.nx σ' H') (h : ∀ nx' : L2.St → Hp → Prop, (∀ σ' H', M σ' H' → nx' σ' H') → tIfS t u v { D with nx := nx' } σ H) : tIfS t u v D σ H := h D.nx fin
theorem start1_10 {a b c d e f g h i j : Str} {u : V} : L2.start [a, b, c, d, e, f, g, h, i, j] [u] = [some u, none, none, none, none, none, none, none, none, none] := rfl
def tyD : PyData → String
  | .none => "NoneType"
  | .bool _ => "bool"
  | .int _ => "int"
  | .str _ => "str"
  | .list _ => "list"
  | .tuple _ => "tuple"
  | .dict _ => "dict"
theorem ty_seq {K : PySem.W.Frag} {H : Hp} {a : Addr} {xs : List V} (h : SqL K H a xs) : TyX K H (.ref a) (.type "list") := by
  rcases h with (h | ⟨o, h⟩) | ⟨o, its, n, h, c, _⟩
  · exact .base (.lst h)
  · exact .base (.frz h)
  · exact .kList h c
theorem ty_tup {K : PySem.W.Frag} {H : Hp} {a : Addr} {xs : List V} (h : SqT K H a xs) : TyX K H (.ref a) (.type "tuple") := by
  rcases h with (h | ⟨o, h⟩) | ⟨o, its, n, h, c, _⟩
  · exact .base (.tup h)
  · exact .fTuple h
  · exact .kTuple h c
theorem ty_dp {K : PySem.W.Frag} {H : Hp} {v : V} {d : PyData} (h : Dp K H v d) : TyX K H v (.type (tyD d)) := by
  cases h with
  | non => exact .base .non
  | bl b => exact .base (.bl b)
  | int i => exact .base (.int i)
  | str x => exact .base (.str x)
  | lst h _ => exact ty_seq h
  | tup h _ => exact ty_tup h
/-- isinstance of such a value and a built-in class -/
theorem isi {K : PySem.W.Frag} {H : Hp} {v : V} {d : PyData} {n : String} {b : Bool} {Q : VK} (h : Dp K H v d) (e : kitB (tyD d) n = some b) (q : Q (.bl b) H) : rIsi K [v, .ty n] H Q :=
  ⟨v, .ty n, _, _, b, rfl, .ty n, ty_dp h, kit_ty e, q⟩
theorem asc_of {t : Tx} (h : t.all (fun c => decide (c < 128)) = true) : asc t := fun c hc => of_decide_eq_true (List.all_eq_true.mp h c hc)
theorem start3_3 {a b c : Str} {u v x : V} : L2.start [a, b, c] [u, v, x] = [some u, some v, some x] := rfl
theorem start4_4 {a b c d : Str} {u v x y : V} : L2.start [a, b, c, d] [u, v, x, y] = [some u, some v, some x, some y] := rfl
theorem start1_5 {a b c d e : Str} {u : V} : L2.start [a, b, c, d, e] [u] = [some u, none, none, none, none] := rfl
theorem start1_6 {a b c d e f : Str} {u : V} : L2.start [a, b, c, d, e, f] [u] = [some u, none, none, none, none, none] := rfl
theorem start1_7 {a b c d e f g : Str} {u : V} : L2.start [a, b, c, d, e, f, g] [u] = [some u, none, none, none, none, none, none] := rfl
theorem start2_2 {a b : Str} {u v : V} : L2.start [a, b] [u, v] = [some u, some v] := rfl
theorem start2_5 {a b c d e : Str} {u v : V} : L2.start [a, b, c, d, e] [u, v] = [some u, some v, none, none, none] := rfl
theorem ixK_list {X : Cx} {K : PySem.W.Frag} (e : X.K = K) : IxR X (rIxL K) := e ▸ ix_list
theorem ixK_tup {X : Cx} {K : PySem.W.Frag} (e : X.K = K) : IxR X (rIxT K) := e ▸ ix_tup
theorem ixK_seq {X : Cx} {K : PySem.W.Frag} (e : X.K = K) : IxR X (rIx K) := e ▸ ix_seq
theorem slK_list {X : Cx} {K : PySem.W.Frag} (e : X.K = K) : SlR X (rSlL K) := e ▸ sl_list
theorem pt_tint {X : Cx} {a : Expr} {ta : TE} (ha : PE X a ta) (he : ∀ whole, isTrue a X.env whole = (do let v ← whole; standAt a.pos; holding [v] (truthy v))) :
    PT X a (fun σ H Q => ta σ H fun x H' => ∃ i, x = .int i ∧ Q (i != 0) H') := by
  refine ⟨fun pins s σ H Q I h => ?_⟩
  exact isTrue_plain (thn (ha.run pins s σ H _ I h) fun v s1 ⟨x, H1, I1, r1, i, e, q⟩ => tru_ok pins s1 σ H1 x v Q I1 r1 ⟨_, by subst e; exact rfl, q⟩) (he _)
theorem eqvAll_refl : ∀ ds : List PyData, (∀ d ∈ ds, PyData.eqv d d = true) → PyData.eqvAll ds ds = true
  | [], _ => by simp [PyData.eqvAll]
  | d :: r, h => by
    simp only [PyData.eqvAll, Bool.and_eq_true]
    exact ⟨h d List.mem_cons_self, eqvAll_refl r fun e he => h e (List.mem_cons_of_mem _ he)⟩
theorem okD.eqv : ∀ {n : Nat} {d : PyData}, okD n d → PyData.eqv d d = true
  | 0, _, h => h.elim
  | _ + 1, .none, _ => by simp [PyData.eqv]
  | _ + 1, .bool _, _ => by simp [PyData.eqv]
  | _ + 1, .int _, _ => by simp [PyData.eqv]
  | _ + 1, .str _, _ => by simp [PyData.eqv]
  | n + 1, .list ds, h => by
    simp only [PyData.eqv]
    exact eqvAll_refl ds fun d hd => (h.2 d hd).eqv
  | n + 1, .tuple ds, h => by
    simp only [PyData.eqv]
    exact eqvAll_refl ds fun d hd => (h.2 d hd).eqv
  | _ + 1, .dict _, h => h.elim
theorem Bx.weak {b : Addr} {G G' H : Hp} (s : Same G G') (B : Bx b G' H) : Bx b G H := by
  obtain ⟨s0, gb, l, ns, t, gl, r⟩ := B
  exact ⟨s.trans s0, s.free gb, l, ns, t, s.free gl, r⟩
theorem Bx.same {b : Addr} {G H H' : Hp} (B : Bx b G H) (s : Same H H') : Bx b G H' := by
  obtain ⟨s0, gb, l, ns, t, gl, hb, hl, r⟩ := B
  exact ⟨s0.trans s, gb, l, ns, t, gl, s _ _ hb, s _ _ hl, r⟩
theorem start1_11 {a b c d e f g h i j k : Str} {u : V} : L2.start [a, b, c, d, e, f, g, h, i, j, k] [u] = [some u, none, none, none, none, none, none, none, none, none, none] := rfl
/-- one statement, what stands behind it -/
theorem seq_fin {u v : TS} {D : Ends} {σ : L2.St} {H : Hp} (M : L2.St → Hp → Prop) (h1 : ∀ nx' : L2.St → Hp → Prop, (∀ σ' H', M σ' H' → nx' σ' H') → u { D with nx := nx' } σ H) (h2 : ∀ σ' H', M σ' H' → v D σ' H') : tSeq u v D σ H := h1 _ h2
/-! ### the draws -/
abbrev s_l_take : Stmt := (top 14)
theorem sc_l_take : FnScope ["_law_box", "_law_many", "_law_number"] ["_law_box", "_law_many"] (defScope s_l_take) := ⟨rfl, rfl, rfl, by decide +kernel, rfl, by decide +kernel, by decide +kernel⟩

def sp_take : Sp := fun vs H Q _ => ∃ (b : Addr) (n : Int) (G : Hp), vs = [.ref b, .int n] ∧ 0 < n ∧ n < 1073741824 ∧ Bx b G H ∧ ∀ (r : Nat) H', (r : Int) < n → Bx b G H' → Q (.int r) H'
theorem ok_take {P : Program} {w : World} {K : PySem.W.Frag} {mg : Str → Option Value} {base : Heap} {f : Addr} {fd : FuncData} (F : FunS K "_law_take" s_l_take f fd) : FnOk P w K mg base CX0 1 f fd ["_law_box", "_law_many"] sp_take := by
  refine F.ok sc_l_take (fun vs H Q E h => ?_) (fun cdv A outer s H vs Q E hr h => ?_)
  · obtain ⟨b, n, G, rfl, _⟩ := h
    rfl
  obtain ⟨b, n, G, rfl, h0, h1, B, k'⟩ := h
  have k : ∀ (r : Int) H', 0 ≤ r → r < n → Bx b G H' → Q (.int r) H' := fun r H' h2 h3 B' => by
    have q := k' r.toNat H' (by omega) B'
    rw [Int.toNat_of_nonneg h2] at q
    exact q
  refine ⟨_, PSs.nox (pss_cons (ps_if (pt_cmpR (op_eqD hr.units) (pe_ix ix_list (pv 0) pe_int (fun _ _ => rfl)) (pe_lst pa_nil) (nomark _))
    (pss_cons (ps_asg (pe_op op_mod (pe_op op_mul (pe_ix ix_list (pv 0) pe_int (fun _ _ => rfl)) pe_int) pe_int) (pg_sub (pv 0) pe_int set_list))
  (pss_one (ps_ret (pe_op op_mod (pe_op op_fdiv (pe_ix ix_list (pv 0) pe_int (fun _ _ => rfl)) pe_int) (pv 1)))))
    pss_nil)
  (pss_cons (ps_set (i := 2) sc_l_take.nd rfl (.inl rfl) (pe_ix ix_list (pe_ix ix_list (pv 0) pe_int (fun _ _ => rfl)) pe_int (fun _ _ => rfl)))
  (pss_cons (ps_asg (pe_op op_fdivN (pv 2) (pv 1)) (pg_sub (pe_ix ix_list (pv 0) pe_int (fun _ _ => rfl)) pe_int set_list))
  (pss_cons (ps_if (PW.pt (pw_or (pt_cmpR op_eq (pe_ix ix_list (pe_ix ix_list (pv 0) pe_int (fun _ _ => rfl)) pe_int (fun _ _ => rfl)) pe_int (nomark _)) (pw_or1 (pt_cmpR op_eq (pe_ix ix_list (pe_ix ix_list (pv 0) pe_int (fun _ _ => rfl)) pe_int (fun _ _ => rfl)) (pe_un un_neg pe_int) (nomark _)))))
    (pss_one (ps_expr (pe_bm PySem.F.plainAttrs_list PySem.F.slot_list_pop PySem.F.type_list_pop mt_popAt (pe_ix ix_list (pv 0) pe_int (fun _ _ => rfl)) (pa_cons pe_int pa_nil))))
    pss_nil)
  (pss_one (ps_ret (pe_op op_mod (pv 2) (pv 1)))))))), ?_⟩
  obtain ⟨sm, gb, l, ns, s, gl, hb, hl, s0, s1⟩ := B
  simp only [tSeq, tAsg, tAnd, tOr, tNot, tTest, tB, tOp, tUn, tCB, tCons, tNil, tVar, tC, gName, rI0, rI, rU, rEq, rNe, rIxS, rIxL, rIxT, tRet, tRetN, tTup, tLst, tSl, tPart, tNoPart, rSlS, tIf, tIfS, tNext, tDrop, tCall, tBM, tBM0, tAndV, tOrV, tNotV, tM0, tM1, gSub, rSetL, sFld, gCons_eq, gNil_eq, tCallS_eq, tDGet, sDPut, tMeth, tMake, tFld, tChain, tIsN, tNotN,
  List.set_cons_zero, List.set_cons_succ, exists_eq_left', exists_eq_left, exists_eq, V.int.injEq, V.str.injEq, V.bl.injEq, V.ref.injEq, List.cons.injEq, and_true, true_and, List.getElem?_cons_zero, List.getElem?_cons_succ, Option.some.injEq, List.append_nil, exists_and_left, cxOf_K, false_and, and_false, exists_false, false_or, or_false, exists_eq', exists_const, sg_eq, S_eq, S_toList, S_ne, tFor_eq, tLc_eq, iList_eq, iTup_eq, iRng1_eq, iStr_eq, decide_eq_true_eq, Bool.not_eq_true', decide_eq_false_iff_not, if_true, if_false, Bool.false_eq_true, reduceCtorEq, Bool.true_eq_false, decide_true, decide_false, start2]
  have nlb : l ≠ b := ne_of hl hb (by
    intro q
    cases ns with
    | nil => cases q
    | cons n r => cases q)
  refine ⟨_, sq_of hb, _, rfl, Nat.zero_le _, ?_⟩
  (intro p np; generalize hqp : upd H p _ = H1; obtain ⟨e1, hp⟩ := al_ np hqp; clear hqp)
  have hb1 := e1 _ _ hb
  have hl1 := e1 _ _ hl
  refine ⟨_, _, .lst (sq_of hl1) (dp_ints ns), .lst (sq_of hp) .nil, shaped_ints ns, rfl, _, rfl, ?_⟩
  rw [eqv_nil]
  cases ns with
  | nil =>
    simp only [List.map_nil, List.isEmpty_nil, if_true]
    refine ⟨_, sq_of hb1, _, rfl, _, rfl, .inl ⟨by omega, by omega⟩, by decide, _, hb1, _, rfl, _, sq_of upd_same, _, rfl, _, rfl, ⟨by decide, by decide⟩, h0, ?_⟩
    refine k _ _ (Int.emod_nonneg _ (by omega)) (Int.emod_lt_of_pos _ h0) ⟨fun a u e => ?_, gb, l, [], _, gl, upd_same, ?_, Int.emod_nonneg _ (by decide), Int.emod_lt_of_pos _ (by decide)⟩
    · rw [upd_ne (ne_of_none e gb)]
      exact e1 _ _ (sm _ _ e)
    · rw [upd_ne nlb]
      exact hl1
  | cons z r =>
    simp only [List.map_cons, List.isEmpty_cons, Bool.false_eq_true, if_false] at hl1 ⊢
    refine ⟨_, sq_of hb1, _, rfl, _, rfl, _, sq_of hl1, _, at0 _ _, _, rfl, ⟨by omega, by omega⟩, ?_⟩
    refine ⟨_, sq_of hb1, _, rfl, _, rfl, _, hl1, _, ix0 _, ?_⟩
    have hb2 : upd H1 l (.lst (V.int (z.fdiv n) :: List.map V.int r)) b = some (.lst [.ref l, .int s]) := by
      rw [upd_ne nlb.symm]
      exact hb1
    have fr : ∀ (xs : List V) a u, G a = some u → upd H1 l (.lst xs) a = some u := fun xs a u e => by
      rw [upd_ne (ne_of_none e gl)]
      exact e1 _ _ (sm _ _ e)
    have fin : ∀ (ms : List Int) (H' : Hp), H' = upd H1 l (.lst (ms.map V.int)) → Q (.int (z % n)) H' := fun ms H' e => by
      subst e
      refine k _ _ (Int.emod_nonneg _ (by omega)) (Int.emod_lt_of_pos _ h0) ⟨fr _, gb, l, ms, s, gl, ?_, upd_same, s0, s1⟩
      rw [upd_ne nlb.symm]
      exact hb1
    refine ⟨_, sq_of hb2, _, rfl, _, rfl, _, sq_of upd_same, _, at0 _ _, rfl, ?_⟩
    simp only [List.set_cons_zero]
    refine ite2 (fun hz => ?_) (fun hz => ?_)
    · refine ⟨_, sq_of hb2, _, rfl, .inl ⟨rfl, _, sq_of upd_same⟩, l, _, 0, 0, _, rfl, rfl, upd_same, by decide, by decide, ?_, rfl, _, rfl, h0, fin r _ ?_⟩
      · simp [seqIndex?]
      · rw [upd_upd]
        rfl
    · refine ⟨_, sq_of hb2, _, rfl, _, rfl, _, sq_of upd_same, _, at0 _ _, rfl, ?_⟩
      refine ite2 (fun hz => ?_) (fun hz => ?_)
      · refine ⟨_, sq_of hb2, _, rfl, .inl ⟨rfl, _, sq_of upd_same⟩, l, _, 0, 0, _, rfl, rfl, upd_same, by decide, by decide, ?_, rfl, _, rfl, h0, fin r _ ?_⟩
        · simp [seqIndex?]
        · rw [upd_upd]
          rfl
      · exact ⟨_, rfl, h0, fin (z.fdiv n :: r) _ rfl⟩
theorem take_ {b : Addr} {n : Int} {G H : Hp} {Q : VK} {E : XK} (B : Bx b G H) (h0 : 0 < n) (h1 : n < 1073741824) (k : ∀ (r : Nat) H', (r : Int) < n → Bx b G H' → Q (.int r) H') : sp_take [.ref b, .int n] H Q E := ⟨b, n, G, rfl, h0, h1, B, k⟩
/-- "..".join(["signs"[take(box, m)] for k in range(n)]): the list of signs -/
theorem signs_draw {n j : Nat} {b : Addr} {G H : Hp} {te : TE} {vs : List Nat} {σ : L2.St} {L : Addr} {Q : VK} (p : Nat → Prop) (hz : n ≤ 1000000) (B : Bx b G H) (hL : H L = none)
    (hw : ∀ x, wipe ((wipe σ vs).set j (some x)) vs = wipe σ vs)
    (hs : ∀ (i : Nat) G' H' (Q' : VK), i < n → Same G G' → Bx b G' H' → (∀ c G2 H2, Same G' G2 → Bx b G2 H2 → p c → Q' (.str (S [c])) H2) → te ((wipe σ vs).set j (some (.int i))) H' Q')
    (hd : ∀ (cs : Tx) G' H', Same G G' → Bx b G' H' → G' L = some (.lst ((cs.map fun c => S [c]).map V.str)) → cs.length = n → (∀ c ∈ cs, p c) → Q (.ref L) H') : CompP (Itr 0 n) (gName j) tYes te vs σ L Q (upd H L (.lst [])) := by
  refine comp_draw (fun v _ => ∃ c, p c ∧ v = .str (S [c])) (fun _ _ _ _ h => h) hz B hL hw (fun i G' H' Q' hi s1 B1 q => hs i G' H' Q' hi s1 B1 fun c G2 H2 s2 B2 pc => q _ G2 H2 s2 B2 ⟨c, pc, rfl⟩) ?_
  intro acc G' H' s1 B1 hl hlen hp
  obtain ⟨cs, e, hc⟩ : ∃ cs : Tx, acc = (cs.map fun c => S [c]).map V.str ∧ ∀ c ∈ cs, p c := by
    clear hl hlen
    induction acc with
    | nil => exact ⟨[], rfl, fun _ h => nomatch h⟩
    | cons v r ih =>
      obtain ⟨cs, e, hc⟩ := ih fun v hv => hp v (List.mem_cons_of_mem _ hv)
      obtain ⟨c, pc, ev⟩ := hp v List.mem_cons_self
      refine ⟨c :: cs, by rw [e, ev]; rfl, fun d hd => ?_⟩
      rcases List.mem_cons.mp hd with h | h
      · rw [h]
        exact pc
      · exact hc d h
  subst e
  exact hd cs G' H' s1 B1 hl (by simpa using hlen) hc
theorem join_signs (cs : Tx) : Txt.join (S []) (cs.map fun c => S [c]) = S cs := by
  have e : (cs.map fun c => S [c]) = (cs.map fun c => [c]).map SX.S := by rw [List.map_map]; rfl
  rw [e]
  refine (SX.join_S [] _).trans (congrArg SX.S ?_)
  have h : ∀ (a : Tx), TL.joinL [] (a.map fun c => [c]) = a := fun a => by
    induction a with
    | nil => rfl
    | cons x r ih =>
      cases r with
      | nil => rfl
      | cons y t =>
        show [x] ++ ([] ++ TL.joinL [] ((y :: t).map fun c => [c])) = x :: y :: t
        rw [ih]
        rfl
  exact h cs
theorem signs_size (cs : Tx) (h : cs.length ≤ 1000000) : ((cs.map fun c => S [c]).map (·.length)).sum + (cs.map fun c => S [c]).length * (S []).length ≤ 16777216 := by
  have e : ((cs.map fun c => S [c]).map (·.length)).sum = cs.length := by
    clear h
    induction cs with
    | nil => rfl
    | cons c r ih =>
      rw [List.map_cons, List.map_cons, List.sum_cons, ih, S_len, List.length_cons]
      simp only [List.length_cons, List.length_nil]
      omega
  rw [e, S_len]
  simp only [List.length_nil, Nat.mul_zero, Nat.add_zero]
  omega
/-! ### two values that are alike: asked of the same data alone -/
def sp_alike (K : PySem.W.Frag) (n : Nat) : Sp := fun vs H Q _ => ∃ (v u : V) (d : PyData), vs = [v, u] ∧ Dp K H v d ∧ Dp K H u d ∧ okD n d ∧ Q (.bl true) H
abbrev s_l_alike : Stmt := (top 15)
theorem sc_l_alike : FnScope ["_law_found", "_law_due", "_law_k"] ["_law_found", "_law_due"] (defScope s_l_alike) := ⟨rfl, rfl, rfl, by decide +kernel, rfl, by decide +kernel, by decide +kernel⟩

section
variable {P : Program} {w : World} {K : PySem.W.Frag} {mg : Str → Option Value} {base : Heap}
theorem kb1 : kitB "bool" "bool" = some true := by decide +kernel
theorem kb2 : kitB "int" "bool" = some false := by decide +kernel
theorem kb3 : kitB "str" "bool" = some false := by decide +kernel
theorem kb4 : kitB "list" "bool" = some false := by decide +kernel
theorem kb5 : kitB "tuple" "bool" = some false := by decide +kernel
theorem ki2 : kitB "int" "int" = some true := by decide +kernel
theorem ki3 : kitB "str" "int" = some false := by decide +kernel
theorem ki4 : kitB "list" "int" = some false := by decide +kernel
theorem ki5 : kitB "tuple" "int" = some false := by decide +kernel
theorem ks3 : kitB "str" "str" = some true := by decide +kernel
theorem ks4 : kitB "list" "str" = some false := by decide +kernel
theorem ks5 : kitB "tuple" "str" = some false := by decide +kernel
theorem kt4 : kitB "list" "tuple" = some false := by decide +kernel
theorem kt5 : kitB "tuple" "tuple" = some true := by decide +kernel
theorem kl4 : kitB "list" "list" = some true := by decide +kernel
theorem kl5 : kitB "tuple" "list" = some false := by decide +kernel
theorem ok_alike_step {f : Addr} {fd : FuncData} {n : Nat} (F : FunS K "_law_alike" s_l_alike f fd) (b_bool : mg "bool" = none) (b_int : mg "int" = none) (b_isinstance : mg "isinstance" = none) (b_len : mg "len" = none) (b_list : mg "list" = none) (b_range : mg "range" = none) (b_str : mg "str" = none) (b_tuple : mg "tuple" = none) (c_l_alike : Cal P w K mg base CX0 n "_law_alike" (sp_alike K n)) : FnOk P w K mg base CX0 (n + 1) f fd ["_law_found", "_law_due"] (sp_alike K (n + 1)) := by
  refine F.ok sc_l_alike (fun vs H Q E h => ?_) (fun cdv A outer s H vs Q E hr h => ?_)
  · obtain ⟨v, u, d, rfl, _⟩ := h
    rfl
  obtain ⟨v, u, d, rfl, h1, h2, ok, k⟩ := h
  refine ⟨_, PSs.nox (pss_cons (ps_if (pt_cmpR op_isN (pv 1) pe_non (nomark _))
    (pss_one (ps_ret (pe_cmpR op_isN (pv 0) pe_non (nomark _))))
    pss_nil)
  (pss_cons (ps_if (pt_val (pe_callB call_isi (by rfl) b_isinstance (by decide +kernel) (pa_cons (pv 1) (pa_cons (pe_bltn (v := .ty "bool") (by rfl) b_bool (by decide +kernel) rfl) pa_nil))))
    (pss_one (ps_ret (pe_and (pe_callB call_isi (by rfl) b_isinstance (by decide +kernel) (pa_cons (pv 0) (pa_cons (pe_bltn (v := .ty "bool") (by rfl) b_bool (by decide +kernel) rfl) pa_nil))) (pe_one (pe_cmpR op_eq (pv 0) (pv 1) (nomark _))))))
    pss_nil)
  (pss_cons (ps_if (pt_val (pe_callB call_isi (by rfl) b_isinstance (by decide +kernel) (pa_cons (pv 1) (pa_cons (pe_bltn (v := .ty "int") (by rfl) b_int (by decide +kernel) rfl) pa_nil))))
    (pss_one (ps_ret (pe_and (pe_callB call_isi (by rfl) b_isinstance (by decide +kernel) (pa_cons (pv 0) (pa_cons (pe_bltn (v := .ty "int") (by rfl) b_int (by decide +kernel) rfl) pa_nil))) (pe_and (pe_not (pe_callB call_isi (by rfl) b_isinstance (by decide +kernel) (pa_cons (pv 0) (pa_cons (pe_bltn (v := .ty "bool") (by rfl) b_bool (by decide +kernel) rfl) pa_nil)))) (pe_one (pe_cmpR op_eq (pv 0) (pv 1) (nomark _)))))))
    pss_nil)
  (pss_cons (ps_if (pt_val (pe_callB call_isi (by rfl) b_isinstance (by decide +kernel) (pa_cons (pv 1) (pa_cons (pe_bltn (v := .ty "str") (by rfl) b_str (by decide +kernel) rfl) pa_nil))))
    (pss_one (ps_ret (pe_and (pe_callB call_isi (by rfl) b_isinstance (by decide +kernel) (pa_cons (pv 0) (pa_cons (pe_bltn (v := .ty "str") (by rfl) b_str (by decide +kernel) rfl) pa_nil))) (pe_one (pe_cmpR op_eq (pv 0) (pv 1) (nomark _))))))
    pss_nil)
  (pss_cons (ps_if (PW.pt (pw_or (pt_cmpR op_ne (pe_callB call_isi (by rfl) b_isinstance (by decide +kernel) (pa_cons (pv 1) (pa_cons (pe_bltn (v := .ty "tuple") (by rfl) b_tuple (by decide +kernel) rfl) pa_nil))) (pe_callB call_isi (by rfl) b_isinstance (by decide +kernel) (pa_cons (pv 0) (pa_cons (pe_bltn (v := .ty "tuple") (by rfl) b_tuple (by decide +kernel) rfl) pa_nil))) (nomark _)) (pw_or1 (pt_cmpR op_ne (pe_callB call_isi (by rfl) b_isinstance (by decide +kernel) (pa_cons (pv 1) (pa_cons (pe_bltn (v := .ty "list") (by rfl) b_list (by decide +kernel) rfl) pa_nil))) (pe_callB call_isi (by rfl) b_isinstance (by decide +kernel) (pa_cons (pv 0) (pa_cons (pe_bltn (v := .ty "list") (by rfl) b_list (by decide +kernel) rfl) pa_nil))) (nomark _)))))
    (pss_one (ps_ret pe_bl))
    pss_nil)
  (pss_cons (ps_if (pt_cmpR op_ne (pe_callB call_len_seq (by rfl) b_len PySem.boot_len (pa_cons (pv 0) pa_nil)) (pe_callB call_len_seq (by rfl) b_len PySem.boot_len (pa_cons (pv 1) pa_nil)) (nomark _))
    (pss_one (ps_ret pe_bl))
    pss_nil)
  (pss_cons (ps_for PassesOwn.never rfl (pi_range1 (by rfl) b_range (pa_cons (pe_callB call_len_seq (by rfl) b_len PySem.boot_len (pa_cons (pv 1) pa_nil)) pa_nil)) (pg_name (i := 2) sc_l_alike.nd rfl (.inl rfl))
    (pss_one (ps_if (pt_not (pt_val (pe_c c_l_alike hr (by first | decide | omega) (by rfl) (pa_cons (pe_ix ix_seq (pv 0) (pv 2) (fun _ _ => rfl)) (pa_cons (pe_ix ix_seq (pv 1) (pv 2) (fun _ _ => rfl)) pa_nil)))))
    (pss_one (ps_ret pe_bl))
    pss_nil)))
  (pss_one (ps_ret pe_bl))))))))), ?_⟩
  simp only [tSeq, tAsg, tAnd, tOr, tNot, tTest, tB, tOp, tUn, tCB, tCons, tNil, tVar, tC, gName, rI0, rI, rU, rEq, rNe, rIxS, rIxL, rIxT, tRet, tRetN, tTup, tLst, tSl, tPart, tNoPart, rSlS, tIf, tIfS, tNext, tDrop, tCall, tBM, tBM0, tAndV, tOrV, tNotV, tM0, tM1, gSub, rSetL, sFld, gCons_eq, gNil_eq, tCallS_eq, tDGet, sDPut, tMeth, tMake, tFld, tChain, tIsN, tNotN,
  List.set_cons_zero, List.set_cons_succ, exists_eq_left', exists_eq_left, exists_eq, V.int.injEq, V.str.injEq, V.bl.injEq, V.ref.injEq, List.cons.injEq, and_true, true_and, List.getElem?_cons_zero, List.getElem?_cons_succ, Option.some.injEq, List.append_nil, exists_and_left, cxOf_K, false_and, and_false, exists_false, false_or, or_false, exists_eq', exists_const, sg_eq, S_eq, S_toList, S_ne, tFor_eq, tLc_eq, iList_eq, iTup_eq, iRng1_eq, iStr_eq, decide_eq_true_eq, Bool.not_eq_true', decide_eq_false_iff_not, if_true, if_false, Bool.false_eq_true, reduceCtorEq, Bool.true_eq_false, decide_true, decide_false, start2]
  cases d with
  | none =>
    obtain rfl := dp_non h1
    obtain rfl := dp_non h2
    simp only [if_true, decide_true]
    exact k
  | bool c =>
    obtain rfl := dp_bl h1
    obtain rfl := dp_bl h2
    rw [if_neg (fun q => nomatch q)]
    refine isi h2 kb1 ?_
    refine vT ?_
    refine isi h1 kb1 ?_
    refine vT ⟨rfl, ?_⟩
    simp only [decide_true]
    exact k
  | int c =>
    obtain rfl := dp_int h1
    obtain rfl := dp_int h2
    rw [if_neg (fun q => nomatch q)]
    refine isi h2 kb2 ?_
    refine vF ?_
    refine isi h2 ki2 ?_
    refine vT ?_
    refine isi h1 ki2 ?_
    refine vT ?_
    refine isi h1 kb2 ?_
    refine nF ⟨rfl, ?_⟩
    simp only [decide_true]
    exact k
  | str c =>
    obtain rfl := dp_str h1
    obtain rfl := dp_str h2
    rw [if_neg (fun q => nomatch q)]
    refine isi h2 kb3 ?_
    refine vF ?_
    refine isi h2 ki3 ?_
    refine vF ?_
    refine isi h2 ks3 ?_
    refine vT ?_
    refine isi h1 ks3 ?_
    refine vT ⟨rfl, ?_⟩
    simp only [decide_true]
    exact k
  | dict _ => cases h1
  | list ds =>
    obtain ⟨a, xs, rfl, a1, a2⟩ := dp_lst h1
    obtain ⟨a', ys, rfl, b1, b2⟩ := dp_lst h2
    rw [if_neg (fun q => nomatch q)]
    refine isi h2 kb4 ?_
    refine vF ?_
    refine isi h2 ki4 ?_
    refine vF ?_
    refine isi h2 ks4 ?_
    refine vF ?_
    refine isi h2 kt4 ?_
    refine isi h1 kt4 ⟨rfl, ?_⟩
    rw [if_neg (fun q => q rfl)]
    refine isi h2 kl4 ?_
    refine isi h1 kl4 ⟨rfl, ?_⟩
    rw [if_neg (fun q => q rfl)]
    refine ⟨a, rfl, xs, .inl a1, a', rfl, ys, .inl b1, rfl, ?_⟩
    have el : xs.length = ys.length := (DpAll.len a2).trans (DpAll.len b2).symm
    rw [if_neg (fun q => q (by rw [el]))]
    have hz : ys.length ≤ 100000 := by
      rw [DpAll.len b2]
      exact ok.1
    refine ⟨a', rfl, ys, .inl b1, by omega, by omega, ?_⟩
    rw [Int.toNat_natCast]
    refine loop_range (n := ys.length) (fun i σ H' => (∃ z, σ = [some (.ref a), some (.ref a'), z]) ∧ H' = H) ⟨⟨_, rfl⟩, rfl⟩ ?_ ?_
    · rintro i σ H' hi ⟨⟨z, rfl⟩, rfl⟩
      have hi2 : i < ds.length := by rw [← DpAll.len b2]; exact hi
      have hd : ds[i]? = some ds[i] := List.getElem?_eq_getElem hi2
      obtain ⟨x, g1, g2⟩ := DpAll.get a2 hd
      obtain ⟨y, g3, g4⟩ := DpAll.get b2 hd
      simp only [tSeq, tAsg, tAnd, tOr, tNot, tTest, tB, tOp, tUn, tCB, tCons, tNil, tVar, tC, gName, rI0, rI, rU, rEq, rNe, rIxS, rIxL, rIxT, tRet, tRetN, tTup, tLst, tSl, tPart, tNoPart, rSlS, tIf, tIfS, tNext, tDrop, tCall, tBM, tBM0, tAndV, tOrV, tNotV, tM0, tM1, gSub, rSetL, sFld, gCons_eq, gNil_eq, tCallS_eq, tDGet, sDPut, tMeth, tMake, tFld, tChain, tIsN, tNotN,
  List.set_cons_zero, List.set_cons_succ, exists_eq_left', exists_eq_left, exists_eq, V.int.injEq, V.str.injEq, V.bl.injEq, V.ref.injEq, List.cons.injEq, and_true, true_and, List.getElem?_cons_zero, List.getElem?_cons_succ, Option.some.injEq, List.append_nil, exists_and_left, cxOf_K, false_and, and_false, exists_false, false_or, or_false, exists_eq', exists_const, sg_eq, S_eq, S_toList, S_ne, tFor_eq, tLc_eq, iList_eq, iTup_eq, iRng1_eq, iStr_eq, decide_eq_true_eq, Bool.not_eq_true', decide_eq_false_iff_not, if_true, if_false, Bool.false_eq_true, reduceCtorEq, Bool.true_eq_false, decide_true, decide_false]
      refine .inl ⟨a, xs, i, x, rfl, rfl, a1, atI_nat g1, .inl ⟨a', ys, i, y, rfl, rfl, b1, atI_nat g3, x, y, _, rfl, g2, g4, ok.2 _ (List.getElem_mem _), ?_⟩⟩
      exact nT rfl
    · rintro σ H' ⟨⟨z, rfl⟩, rfl⟩
      exact k
  | tuple ds =>
    obtain ⟨a, xs, rfl, a1, a2⟩ := dp_tup h1
    obtain ⟨a', ys, rfl, b1, b2⟩ := dp_tup h2
    rw [if_neg (fun q => nomatch q)]
    refine isi h2 kb5 ?_
    refine vF ?_
    refine isi h2 ki5 ?_
    refine vF ?_
    refine isi h2 ks5 ?_
    refine vF ?_
    refine isi h2 kt5 ?_
    refine isi h1 kt5 ⟨rfl, ?_⟩
    rw [if_neg (fun q => q rfl)]
    refine isi h2 kl5 ?_
    refine isi h1 kl5 ⟨rfl, ?_⟩
    rw [if_neg (fun q => q rfl)]
    refine ⟨a, rfl, xs, .inr a1, a', rfl, ys, .inr b1, rfl, ?_⟩
    have el : xs.length = ys.length := (DpAll.len a2).trans (DpAll.len b2).symm
    rw [if_neg (fun q => q (by rw [el]))]
    have hz : ys.length ≤ 100000 := by
      rw [DpAll.len b2]
      exact ok.1
    refine ⟨a', rfl, ys, .inr b1, by omega, by omega, ?_⟩
    rw [Int.toNat_natCast]
    refine loop_range (n := ys.length) (fun i σ H' => (∃ z, σ = [some (.ref a), some (.ref a'), z]) ∧ H' = H) ⟨⟨_, rfl⟩, rfl⟩ ?_ ?_
    · rintro i σ H' hi ⟨⟨z, rfl⟩, rfl⟩
      have hi2 : i < ds.length := by rw [← DpAll.len b2]; exact hi
      have hd : ds[i]? = some ds[i] := List.getElem?_eq_getElem hi2
      obtain ⟨x, g1, g2⟩ := DpAll.get a2 hd
      obtain ⟨y, g3, g4⟩ := DpAll.get b2 hd
      simp only [tSeq, tAsg, tAnd, tOr, tNot, tTest, tB, tOp, tUn, tCB, tCons, tNil, tVar, tC, gName, rI0, rI, rU, rEq, rNe, rIxS, rIxL, rIxT, tRet, tRetN, tTup, tLst, tSl, tPart, tNoPart, rSlS, tIf, tIfS, tNext, tDrop, tCall, tBM, tBM0, tAndV, tOrV, tNotV, tM0, tM1, gSub, rSetL, sFld, gCons_eq, gNil_eq, tCallS_eq, tDGet, sDPut, tMeth, tMake, tFld, tChain, tIsN, tNotN,
  List.set_cons_zero, List.set_cons_succ, exists_eq_left', exists_eq_left, exists_eq, V.int.injEq, V.str.injEq, V.bl.injEq, V.ref.injEq, List.cons.injEq, and_true, true_and, List.getElem?_cons_zero, List.getElem?_cons_succ, Option.some.injEq, List.append_nil, exists_and_left, cxOf_K, false_and, and_false, exists_false, false_or, or_false, exists_eq', exists_const, sg_eq, S_eq, S_toList, S_ne, tFor_eq, tLc_eq, iList_eq, iTup_eq, iRng1_eq, iStr_eq, decide_eq_true_eq, Bool.not_eq_true', decide_eq_false_iff_not, if_true, if_false, Bool.false_eq_true, reduceCtorEq, Bool.true_eq_false, decide_true, decide_false]
      refine .inr (.inl ⟨a, xs, i, x, rfl, rfl, a1, atI_nat g1, .inr (.inl ⟨a', ys, i, y, rfl, rfl, b1, atI_nat g3, x, y, _, rfl, g2, g4, ok.2 _ (List.getElem_mem _), ?_⟩)⟩)
      exact nT rfl
    · rintro σ H' ⟨⟨z, rfl⟩, rfl⟩
      exact k
theorem cal_alike {f : Addr} {fd : FuncData} (F : FunS K "_law_alike" s_l_alike f fd) (bn : Binds K fd ["_law_found", "_law_due"] []) (m : mg "_law_alike" = some (.ref f)) (b_bool : mg "bool" = none) (b_int : mg "int" = none) (b_isinstance : mg "isinstance" = none) (b_len : mg "len" = none) (b_list : mg "list" = none) (b_range : mg "range" = none) (b_str : mg "str" = none) (b_tuple : mg "tuple" = none) : ∀ n, Cal P w K mg base CX0 n "_law_alike" (sp_alike K n)
  | 0 => by
    refine ⟨f, fd, ["_law_found", "_law_due"], ⟨?_, ?_⟩, m, F.kp, bn⟩
    · rintro vs H Q E ⟨v, u, d, _, _, _, h, _⟩
      exact h.elim
    · rintro A outer s H args us vs Q E _ _ _ _ ⟨v, u, d, _, _, _, h, _⟩
      exact h.elim
  | n + 1 => ⟨f, fd, _, ok_alike_step F (b_bool := b_bool) (b_int := b_int) (b_isinstance := b_isinstance) (b_len := b_len) (b_list := b_list) (b_range := b_range) (b_str := b_str) (b_tuple := b_tuple) (cal_alike F bn m b_bool b_int b_isinstance b_len b_list b_range b_str b_tuple n), m, F.kp, bn⟩
end
abbrev s_l_begun : Stmt := (top 13)
theorem sc_l_begun : FnScope ["_law_script", "_law_stirred", "_law_cell"] ["_law_script"] (defScope s_l_begun) := ⟨rfl, rfl, rfl, by decide +kernel, rfl, by decide +kernel, by decide +kernel⟩

def sp_begun (K : PySem.W.Frag) : Sp := fun vs H Q _ => ∃ (a : Addr) (ns : List Int), vs = [.ref a] ∧ SqL K H a (ns.map V.int) ∧ ns.length ≤ 63 ∧ ∀ b G H', Same H G → Bx b G H' → Q (.ref b) H'
section
variable {P : Program} {w : World} {K : PySem.W.Frag} {mg : Str → Option Value} {base : Heap}
theorem ok_begun {f : Addr} {fd : FuncData} (F : FunS K "_law_begun" s_l_begun f fd) (b_int : mg "int" = none) (b_len : mg "len" = none) (b_list : mg "list" = none) : FnOk P w K mg base CX0 1 f fd ["_law_script"] (sp_begun K) := by
  refine F.ok sc_l_begun (fun vs H Q E h => ?_) (fun cdv A outer s H vs Q E hr h => ?_)
  · obtain ⟨a, ns, rfl, _⟩ := h
    rfl
  obtain ⟨a, ns, rfl, hS, hn, k⟩ := h
  refine ⟨_, PSs.nox (pss_cons (ps_set (i := 1) sc_l_begun.nd rfl (.inl rfl) pe_int)
  (pss_cons (ps_for PassesOwn.never rfl (pi_list (pv 0)) (pg_name (i := 2) sc_l_begun.nd rfl (.inl rfl))
    (pss_one (ps_set (i := 1) sc_l_begun.nd rfl (.inl rfl) (pe_op op_mod (pe_op op_add (pe_op op_add (pe_op op_mul (pv 1) pe_int) (pe_op op_mul (pv 2) pe_int)) pe_int) pe_int))))
  (pss_one (ps_ret (pe_lst (pa_cons (pe_callTy call_list_of (by rfl) b_list (by decide +kernel) (pa_cons (pv 0) pa_nil)) (pa_cons (pe_op op_mul (pv 1) (pe_callTy call_int1 (by rfl) b_int (by decide +kernel) (pa_cons (pe_cmpR op_gt (pe_callB call_len_seq (by rfl) b_len PySem.boot_len (pa_cons (pv 0) pa_nil)) pe_int (nomark _)) pa_nil))) pa_nil))))))), ?_⟩
  simp only [tSeq, tAsg, tAnd, tOr, tNot, tTest, tB, tOp, tUn, tCB, tCons, tNil, tVar, tC, gName, rI0, rI, rU, rEq, rNe, rIxS, rIxL, rIxT, tRet, tRetN, tTup, tLst, tSl, tPart, tNoPart, rSlS, tIf, tIfS, tNext, tDrop, tCall, tBM, tBM0, tAndV, tOrV, tNotV, tM0, tM1, gSub, rSetL, sFld, gCons_eq, gNil_eq, tCallS_eq, tDGet, sDPut, tMeth, tMake, tFld, tChain, tIsN, tNotN,
  List.set_cons_zero, List.set_cons_succ, exists_eq_left', exists_eq_left, exists_eq, V.int.injEq, V.str.injEq, V.bl.injEq, V.ref.injEq, List.cons.injEq, and_true, true_and, List.getElem?_cons_zero, List.getElem?_cons_succ, Option.some.injEq, List.append_nil, exists_and_left, cxOf_K, false_and, and_false, exists_false, false_or, or_false, exists_eq', exists_const, sg_eq, S_eq, S_toList, S_ne, tFor_eq, tLc_eq, iList_eq, iTup_eq, iRng1_eq, iStr_eq, decide_eq_true_eq, Bool.not_eq_true', decide_eq_false_iff_not, if_true, if_false, Bool.false_eq_true, reduceCtorEq, Bool.true_eq_false, decide_true, decide_false, start1_3]
  refine ⟨⟨_, hS⟩, loop_list (ns.map V.int) (fun r σ H' => ∃ (i : Int) (z : Option V) (ms : List Int), r = ms.map V.int ∧ σ = [some (.ref a), some (.int i), z] ∧ H' = H ∧ 0 ≤ i ∧ i < 2147483647) ⟨0, none, ns, rfl, rfl, rfl, by decide, by decide⟩ ?_ ?_ ?_⟩
  · rintro r σ H' ⟨i, z, ms, rfl, rfl, rfl, h0, h1⟩
    exact hS
  · rintro x r σ H' ⟨i, z, ms, e, rfl, rfl, h0, h1⟩
    cases ms with
    | nil => cases e
    | cons m ms =>
      simp only [List.map_cons, List.cons.injEq] at e
      obtain ⟨rfl, rfl⟩ := e
      simp only [tSeq, tAsg, tAnd, tOr, tNot, tTest, tB, tOp, tUn, tCB, tCons, tNil, tVar, tC, gName, rI0, rI, rU, rEq, rNe, rIxS, rIxL, rIxT, tRet, tRetN, tTup, tLst, tSl, tPart, tNoPart, rSlS, tIf, tIfS, tNext, tDrop, tCall, tBM, tBM0, tAndV, tOrV, tNotV, tM0, tM1, gSub, rSetL, sFld, gCons_eq, gNil_eq, tCallS_eq, tDGet, sDPut, tMeth, tMake, tFld, tChain, tIsN, tNotN,
  List.set_cons_zero, List.set_cons_succ, exists_eq_left', exists_eq_left, exists_eq, V.int.injEq, V.str.injEq, V.bl.injEq, V.ref.injEq, List.cons.injEq, and_true, true_and, List.getElem?_cons_zero, List.getElem?_cons_succ, Option.some.injEq, List.append_nil, exists_and_left, cxOf_K, false_and, and_false, exists_false, false_or, or_false, exists_eq', exists_const, sg_eq, S_eq, S_toList, S_ne, tFor_eq, tLc_eq, iList_eq, iTup_eq, iRng1_eq, iStr_eq, decide_eq_true_eq, Bool.not_eq_true', decide_eq_false_iff_not, if_true, if_false, Bool.false_eq_true, reduceCtorEq, Bool.true_eq_false, decide_true, decide_false]
      refine ⟨.inl ⟨by omega, by omega⟩, .inr ⟨by decide, by decide⟩, by decide, ?_⟩
      exact ⟨_, _, ms, rfl, ⟨rfl, rfl⟩, Int.emod_nonneg _ (by decide), Int.emod_lt_of_pos _ (by decide)⟩
  · rintro σ H' ⟨i, z, ms, e, rfl, rfl, h0, h1⟩
    simp only [tSeq, tAsg, tAnd, tOr, tNot, tTest, tB, tOp, tUn, tCB, tCons, tNil, tVar, tC, gName, rI0, rI, rU, rEq, rNe, rIxS, rIxL, rIxT, tRet, tRetN, tTup, tLst, tSl, tPart, tNoPart, rSlS, tIf, tIfS, tNext, tDrop, tCall, tBM, tBM0, tAndV, tOrV, tNotV, tM0, tM1, gSub, rSetL, sFld, gCons_eq, gNil_eq, tCallS_eq, tDGet, sDPut, tMeth, tMake, tFld, tChain, tIsN, tNotN,
  List.set_cons_zero, List.set_cons_succ, exists_eq_left', exists_eq_left, exists_eq, V.int.injEq, V.str.injEq, V.bl.injEq, V.ref.injEq, List.cons.injEq, and_true, true_and, List.getElem?_cons_zero, List.getElem?_cons_succ, Option.some.injEq, List.append_nil, exists_and_left, cxOf_K, false_and, and_false, exists_false, false_or, or_false, exists_eq', exists_const, sg_eq, S_eq, S_toList, S_ne, tFor_eq, tLc_eq, iList_eq, iTup_eq, iRng1_eq, iStr_eq, decide_eq_true_eq, Bool.not_eq_true', decide_eq_false_iff_not, if_true, if_false, Bool.false_eq_true, reduceCtorEq, Bool.true_eq_false, decide_true, decide_false]
    refine ⟨_, .inl hS, ?_⟩
    (intro l nl; generalize hql : upd H' l _ = H1; obtain ⟨e1, f1⟩ := al_ nl hql; clear hql)
    refine ⟨_, .inl (same_l e1 hS), ?_⟩
    refine ⟨.inl ⟨by omega, by omega⟩, (size_le (by simp only [List.length_cons, List.length_nil]; decide)), ?_⟩
    (intro b nb; generalize hqb : upd H1 b _ = H2; obtain ⟨e2, f2⟩ := al_ nb hqb; clear hqb)
    have nlb : l ≠ b := ne_of_none f1 nb
    refine k b H' H2 (Same.refl _) ⟨e1.trans e2, e1.free nb, l, ns, _, nl, f2, e2 _ _ f1, ?_, ?_⟩
    · split <;> omega
    · split <;> omega
end
/-! ### defs that raise -/
structure CalX (P : Program) (w : World) (K : PySem.W.Frag) (mg : Str → Option Value) (base : Heap) (k : Nat) (x : Str) (sp : Sp) : Prop where
  ex : ∃ (f : Addr) (fd : FuncData) (ps : List Str), FnOk P w K mg base (L2.CX P w) k f fd ps sp ∧ mg x = some (.ref f) ∧ PySem.W.keepIn K (.ref f) = true ∧ Binds K fd ps []
theorem calX_of {P : Program} {w : World} {K : PySem.W.Frag} {mg : Str → Option Value} {base : Heap} {k : Nat} {x : Str} {st : Stmt} {f : Addr} {fd : FuncData} {ps : List Str} {sp : Sp} (F : FunS K x st f fd) (ok : FnOk P w K mg base (L2.CX P w) k f fd ps sp) (m : mg x = some (.ref f)) (b : Binds K fd ps []) :
    CalX P w K mg base k x sp := ⟨f, fd, ps, ok, m, F.kp, b⟩
section
variable {X : Cx} {k j : Nat} {x : Str} {sp : Sp} {p pos : Pos} {e : Expr} {es : List Expr} {t : TA}
/-- a call of such a def in a def that raises, too: what leaves the one leaves the other -/
theorem pe_cx {E : XK} (c : CalX X.prog X.w X.K X.mg X.base k x sp) (hr : Room j X.A) (hk : k ≤ j) (hg : Gl X x) (hp : Passes (L2.CX X.prog X.w) X E) (ha : PA X (e :: es) t)
    (hdb : (x == ("__debug__" : Str)) = false := by decide) (he : starEach (e :: es) X.env = (false, eval e X.env) :: starEach es X.env := by rfl) (hpl : (backTo pos (starEach es X.env)).any (·.1) = false := by rfl) :
    PE X (.Call (.Name x p) (e :: es) [] pos) (tCall sp [] E t) := by
  obtain ⟨f, fd, ps, F, hm, kp, b⟩ := c.ex
  exact pe_call F (hr.mono hk) hg hm kp b .nil hp ha hdb he hpl
/-- .. in a try's body -/
theorem pe_cs {W : WX} (c : CalX X.prog X.w X.K X.mg X.base k x sp) (hr : Room j X.A) (hk : k ≤ j) (hg : Gl X x) (tk : Takes X W) (ha : PA X (e :: es) t)
    (hdb : (x == ("__debug__" : Str)) = false := by decide) (he : starEach (e :: es) X.env = (false, eval e X.env) :: starEach es X.env := by rfl) (hpl : (backTo pos (starEach es X.env)).any (·.1) = false := by rfl) :
    PE X (.Call (.Name x p) (e :: es) [] pos) (tCallS sp (WE W) t) := by
  obtain ⟨f, fd, ps, F, hm, kp, b⟩ := c.ex
  exact pe_callS F (hr.mono hk) hg hm kp b (fun σ => passAt tk σ) ha hdb he hpl
theorem pss_and {q : Prop} {body : List Stmt} {t : TS} (h : q → PSs X body t) : PSs X body (fun D σ H => q ∧ t D σ H) := ⟨fun pins s σ H D I w => (h w.1).run pins s σ H D I w.2⟩
theorem zc_of {cls : Value} {d : Option Addr} {oe : Obj} {D : Addr} (h : cls = .ref D ∧ d = none) (hz : Zc cls d oe) : Zc (.ref D) none oe := by
  obtain ⟨rfl, rfl⟩ := h
  exact hz
theorem isE_K {K : PySem.W.Frag} {a D : Addr} {oe : Obj} {pn : List (Addr × Obj)} (e : X.K = K) (C : ExcC K D) (hz : Zc (.ref D) none oe) (hf : ∃ vs, oe.data = .fields vs) : CallR (X.suite a ((a, oe) :: pn)) (.builtin "isinstance") (rIsE K D a) := by
  subst e
  exact call_isE C hz hf
end
open He in
def excCB (K : PySem.W.Frag) (D : Addr) : Bool := eqO (PySem.W.findIn K (.ref D) "__getattribute__") (some (some (.builtin "BaseException.__getattribute__"))) && (eqO (PySem.W.findIn K (.ref D) "__getattr__") (some none) && (decide (PySem.W.subIn K (.ref D) (.type "BaseException") = some true) &&
  (PySem.W.hasDictIn K D && (eqO (PySem.W.findIn K (.ref D) "__class__") (some (some (.builtin "object.__class__"))) && (eqO (PySem.W.specialIn K (.builtin "object.__class__") "__get__") (some (some (.builtin "getset_descriptor.__get__"))) &&
  (decide (PySem.W.takesIn K (.builtin "object.__class__") = some true) && decide (PySem.W.mroIn K D (.type "object") = some true)))))))
theorem excCB_ok {K : PySem.W.Frag} {D : Addr} (h : excCB K D = true) : ExcC K D := by
  obtain ⟨h1, h⟩ := He.ba h
  obtain ⟨h2, h⟩ := He.ba h
  obtain ⟨h3, h⟩ := He.ba h
  obtain ⟨h4, h⟩ := He.ba h
  obtain ⟨h5, h⟩ := He.ba h
  obtain ⟨h6, h⟩ := He.ba h
  obtain ⟨h7, h8⟩ := He.ba h
  exact ⟨He.eqO_ok h1, He.eqO_ok h2, of_decide_eq_true h3, h4, He.eqO_ok h5, He.eqO_ok h6, of_decide_eq_true h7, of_decide_eq_true h8⟩
structure ExF (K : PySem.W.Frag) (mg : Str → Option Value) : Prop where
  g_ChordError : mg "ChordError" = some (.ref (He.ga K "ChordError"))
  g_BadStroke : mg "BadStroke" = some (.ref (He.ga K "BadStroke"))
  g_BadEntry : mg "BadEntry" = some (.ref (He.ga K "BadEntry"))
  g_BadBook : mg "BadBook" = some (.ref (He.ga K "BadBook"))
  g_NoRow : mg "NoRow" = some (.ref (He.ga K "NoRow"))
  x_BadStroke : PySem.W.excIn K (He.ga K "BadStroke") He.veBase "ValueError.__new__" = true
  k_BadStroke : PySem.W.keepIn K (.ref (He.ga K "BadStroke")) = true
  b_BadStroke : PySem.W.subIn K (.ref (He.ga K "BadStroke")) (.type "BaseException") = some true
  t_BadStroke : PySem.W.typeIn K (.ref (He.ga K "BadStroke")) = some (.type "type")
  c_BadStroke : ExcC K (He.ga K "BadStroke")
  m_ChordError : PySem.W.exmOne K (.ref (He.ga K "BadStroke")) (.ref (He.ga K "ChordError")) = some true
  q_ChordError : PySem.W.kitOne K (.ref (He.ga K "BadStroke")) (.ref (He.ga K "ChordError")) = some true
  m_BadStroke : PySem.W.exmOne K (.ref (He.ga K "BadStroke")) (.ref (He.ga K "BadStroke")) = some true
  q_BadStroke : PySem.W.kitOne K (.ref (He.ga K "BadStroke")) (.ref (He.ga K "BadStroke")) = some true
  m_BadEntry : PySem.W.exmOne K (.ref (He.ga K "BadStroke")) (.ref (He.ga K "BadEntry")) = some false
  q_BadEntry : PySem.W.kitOne K (.ref (He.ga K "BadStroke")) (.ref (He.ga K "BadEntry")) = some false
  m_BadBook : PySem.W.exmOne K (.ref (He.ga K "BadStroke")) (.ref (He.ga K "BadBook")) = some false
  q_BadBook : PySem.W.kitOne K (.ref (He.ga K "BadStroke")) (.ref (He.ga K "BadBook")) = some false
  m_NoRow : PySem.W.exmOne K (.ref (He.ga K "BadStroke")) (.ref (He.ga K "NoRow")) = some false
  q_NoRow : PySem.W.kitOne K (.ref (He.ga K "BadStroke")) (.ref (He.ga K "NoRow")) = some false
  q_ValueError : PySem.W.kitOne K (.ref (He.ga K "BadStroke")) (.type "ValueError") = some true
def exB (K : PySem.W.Frag) : Bool := excCB K (He.ga K "BadStroke") && (decide (PySem.W.kitOne K (.ref (He.ga K "BadStroke")) (.ref (He.ga K "ChordError")) = some true) && decide (PySem.W.kitOne K (.ref (He.ga K "BadStroke")) (.ref (He.ga K "BadStroke")) = some true) && decide (PySem.W.kitOne K (.ref (He.ga K "BadStroke")) (.ref (He.ga K "BadEntry")) = some false) && decide (PySem.W.kitOne K (.ref (He.ga K "BadStroke")) (.ref (He.ga K "BadBook")) = some false) && decide (PySem.W.kitOne K (.ref (He.ga K "BadStroke")) (.ref (He.ga K "NoRow")) = some false) && decide (PySem.W.kitOne K (.ref (He.ga K "BadStroke")) (.type "ValueError") = some true))
/-! ### strokes -/
def strokeT (n : Nat) : Tx := ((List.range 10).filter fun k => n / 2 ^ k % 2 == 1).map (97 + ·)
def sp_stroke : Sp := fun vs H Q _ => ∃ (b : Addr) (G : Hp), vs = [.ref b] ∧ Bx b G H ∧ ∀ (n : Nat) H', 1 ≤ n → n ≤ 1023 → Bx b G H' → Q (.str (S (strokeT n))) H'
theorem stroke_ok : ∀ n, n < 1024 → 1 ≤ n → 1 ≤ (strokeT n).length ∧ (strokeT n).length ≤ 10 := by decide +kernel
theorem stroke_asc (n : Nat) : asc (strokeT n) := fun c hc => by
  obtain ⟨k, hk, rfl⟩ := List.mem_map.mp hc
  have := List.mem_range.mp (List.mem_filter.mp hk).1
  omega
theorem bits_at : ∀ i : Nat, i < 10 → atI [V.int 1, V.int 2, V.int 4, V.int 8, V.int 16, V.int 32, V.int 64, V.int 128, V.int 256, V.int 512] (i : Int) = some (.int ((2 ^ i : Nat) : Int)) ∧ atI [97, 98, 99, 100, 101, 102, 103, 104, 105, 106] (i : Int) = some (97 + i)
  | 0, _ | 1, _ | 2, _ | 3, _ | 4, _ | 5, _ | 6, _ | 7, _ | 8, _ | 9, _ => ⟨rfl, rfl⟩
  | n + 10, h => absurd h (by omega)
theorem CDivN_ok (n m : Nat) (h : 0 < m) (h2 : m < 1073741824) : CDivN (n : Int) (m : Int) := ⟨by omega, by omega⟩
theorem pow_lt10 : ∀ i, i < 10 → 2 ^ i < 1073741824 := by decide
theorem bit_test (n i : Nat) : ((n : Int).fdiv ((2 ^ i : Nat) : Int) % 2 != 0) = (n / 2 ^ i % 2 == 1) := by
  rw [Int.fdiv_eq_ediv_of_nonneg _ (Int.natCast_nonneg _), ← Int.natCast_ediv]
  generalize n / 2 ^ i = q
  rw [Bool.eq_iff_iff, bne_iff_ne, beq_iff_eq]
  omega
abbrev s_l_stroke : Stmt := (top 16)
theorem sc_l_stroke : FnScope ["_law_box", "_law_number", "_law_k"] ["_law_box"] (defScope s_l_stroke) := ⟨rfl, rfl, rfl, by decide +kernel, rfl, by decide +kernel, by decide +kernel⟩

section
variable {P : Program} {w : World} {K : PySem.W.Frag} {mg : Str → Option Value} {base : Heap}
theorem ok_stroke {f : Addr} {fd : FuncData} (F : FunS K "_law_stroke" s_l_stroke f fd) (b_range : mg "range" = none) (c_l_take : Cal P w K mg base CX0 1 "_law_take" sp_take) : FnOk P w K mg base CX0 2 f fd ["_law_box"] sp_stroke := by
  refine F.ok sc_l_stroke (fun vs H Q E h => ?_) (fun cdv A outer s H vs Q E hr h => ?_)
  · obtain ⟨b, G, rfl, _⟩ := h
    rfl
  obtain ⟨b, G, rfl, B, k⟩ := h
  refine ⟨_, PSs.nox (pss_cons (ps_set (i := 1) sc_l_stroke.nd rfl (.inr rfl) (pe_op op_add pe_int (pe_c c_l_take hr (by first | decide | omega) (by rfl) (pa_cons (pv 0) (pa_cons pe_int pa_nil)))))
  (pss_cons (ps_if (pt_cmpR op_gt (pe_c c_l_take hr (by first | decide | omega) (by rfl) (pa_cons (pv 0) (pa_cons pe_int pa_nil))) pe_int (nomark _))
    (pss_one (ps_set (i := 1) sc_l_stroke.nd rfl (.inr rfl) (pe_ix ix_list (pe_lst (pa_cons pe_int (pa_cons pe_int (pa_cons pe_int (pa_cons pe_int (pa_cons pe_int (pa_cons pe_int pa_nil))))))) (pe_c c_l_take hr (by first | decide | omega) (by rfl) (pa_cons (pv 0) (pa_cons pe_int pa_nil))) (fun _ _ => rfl))))
    pss_nil)
  (pss_one (ps_ret (pe_join pe_str (pe_lc (own := [("_law_k", 2)]) rfl sc_l_stroke.nd (pi_range1 (by rfl) b_range (pa_cons pe_int pa_nil)) (blkOk_by (N := ["_law_box", "_law_number", "_law_k"]) (sc := defScope s_l_stroke) (own := [("_law_k", 2)]) (by decide +kernel)) (fun _ _ _ _ _ => (pg_name (i := 2) sc_l_stroke.nd rfl (.inl rfl))) (fun _ _ _ _ _ => (pts_one (pt_tint (pe_op op_mod (pe_op op_fdivN (pv 1) (pe_ix (ixK_list (K := K) rfl) (pe_lst (pa_cons pe_int (pa_cons pe_int (pa_cons pe_int (pa_cons pe_int (pa_cons pe_int (pa_cons pe_int (pa_cons pe_int (pa_cons pe_int (pa_cons pe_int (pa_cons pe_int pa_nil))))))))))) (pv 2) (fun _ _ => rfl))) pe_int) (by intro _; rfl)))) (fun _ _ _ _ _ => (pe_ix ix_str pe_str (pv 2) (fun _ _ => rfl))))))))), ?_⟩
  simp only [tSeq, tAsg, tAnd, tOr, tNot, tTest, tB, tOp, tUn, tCB, tCons, tNil, tVar, tC, gName, rI0, rI, rU, rEq, rNe, rIxS, rIxL, rIxT, tRet, tRetN, tTup, tLst, tSl, tPart, tNoPart, rSlS, tIf, tNext, tDrop, tCall, tBM, tBM0, tAndV, tOrV, tNotV, tM0, tM1, gSub, rSetL, sFld, gCons_eq, gNil_eq, tCallS_eq, tDGet, sDPut, tMeth, tMake, tFld, tChain, tIsN, tNotN,
  List.set_cons_zero, List.set_cons_succ, exists_eq_left', exists_eq_left, exists_eq, V.int.injEq, V.str.injEq, V.bl.injEq, V.ref.injEq, List.cons.injEq, and_true, true_and, List.getElem?_cons_zero, List.getElem?_cons_succ, Option.some.injEq, List.append_nil, exists_and_left, cxOf_K, false_and, and_false, exists_false, false_or, or_false, exists_eq', exists_const, sg_eq, S_eq, S_toList, S_ne, tFor_eq, tLc_eq, iList_eq, iTup_eq, iRng1_eq, iStr_eq, decide_eq_true_eq, Bool.not_eq_true', decide_eq_false_iff_not, if_true, if_false, Bool.false_eq_true, reduceCtorEq, Bool.true_eq_false, decide_true, decide_false, lit_, lit_97_98_99_100_101_102_103_104_105_106, start1_3]
  refine take_ B (by decide) (by decide) fun r1 H1 hr1 B1 => ?_
  simp only [tSeq, tAsg, tAnd, tOr, tNot, tTest, tB, tOp, tUn, tCB, tCons, tNil, tVar, tC, gName, rI0, rI, rU, rEq, rNe, rIxS, rIxL, rIxT, tRet, tRetN, tTup, tLst, tSl, tPart, tNoPart, rSlS, tIf, tNext, tDrop, tCall, tBM, tBM0, tAndV, tOrV, tNotV, tM0, tM1, gSub, rSetL, sFld, gCons_eq, gNil_eq, tCallS_eq, tDGet, sDPut, tMeth, tMake, tFld, tChain, tIsN, tNotN,
  List.set_cons_zero, List.set_cons_succ, exists_eq_left', exists_eq_left, exists_eq, V.int.injEq, V.str.injEq, V.bl.injEq, V.ref.injEq, List.cons.injEq, and_true, true_and, List.getElem?_cons_zero, List.getElem?_cons_succ, Option.some.injEq, List.append_nil, exists_and_left, cxOf_K, false_and, and_false, exists_false, false_or, or_false, exists_eq', exists_const, sg_eq, S_eq, S_toList, S_ne, tFor_eq, tLc_eq, iList_eq, iTup_eq, iRng1_eq, iStr_eq, decide_eq_true_eq, Bool.not_eq_true', decide_eq_false_iff_not, if_true, if_false, Bool.false_eq_true, reduceCtorEq, Bool.true_eq_false, decide_true, decide_false]
  refine if_fin (fun σ' H' => ∃ n : Nat, σ' = [some (.ref b), some (.int (n : Int)), none] ∧ 1 ≤ n ∧ n ≤ 1023 ∧ Bx b G H') ?_ ?_
  rotate_left
  · intro nx fin
    simp only [tSeq, tAsg, tAnd, tOr, tNot, tTest, tB, tOp, tUn, tCB, tCons, tNil, tVar, tC, gName, rI0, rI, rU, rEq, rNe, rIxS, rIxL, rIxT, tRet, tRetN, tTup, tLst, tSl, tPart, tNoPart, rSlS, tIf, tIfS, tNext, tDrop, tCall, tBM, tBM0, tAndV, tOrV, tNotV, tM0, tM1, gSub, rSetL, sFld, gCons_eq, gNil_eq, tCallS_eq, tDGet, sDPut, tMeth, tMake, tFld, tChain, tIsN, tNotN,
  List.set_cons_zero, List.set_cons_succ, exists_eq_left', exists_eq_left, exists_eq, V.int.injEq, V.str.injEq, V.bl.injEq, V.ref.injEq, List.cons.injEq, and_true, true_and, List.getElem?_cons_zero, List.getElem?_cons_succ, Option.some.injEq, List.append_nil, exists_and_left, cxOf_K, false_and, and_false, exists_false, false_or, or_false, exists_eq', exists_const, sg_eq, S_eq, S_toList, S_ne, tFor_eq, tLc_eq, iList_eq, iTup_eq, iRng1_eq, iStr_eq, decide_eq_true_eq, Bool.not_eq_true', decide_eq_false_iff_not, if_true, if_false, Bool.false_eq_true, reduceCtorEq, Bool.true_eq_false, decide_true, decide_false]
    refine take_ B1 (by decide) (by decide) fun r2 H2 hr2 B2 => ?_
    simp only [tSeq, tAsg, tAnd, tOr, tNot, tTest, tB, tOp, tUn, tCB, tCons, tNil, tVar, tC, gName, rI0, rI, rU, rEq, rNe, rIxS, rIxL, rIxT, tRet, tRetN, tTup, tLst, tSl, tPart, tNoPart, rSlS, tIf, tIfS, tNext, tDrop, tCall, tBM, tBM0, tAndV, tOrV, tNotV, tM0, tM1, gSub, rSetL, sFld, gCons_eq, gNil_eq, tCallS_eq, tDGet, sDPut, tMeth, tMake, tFld, tChain, tIsN, tNotN,
  List.set_cons_zero, List.set_cons_succ, exists_eq_left', exists_eq_left, exists_eq, V.int.injEq, V.str.injEq, V.bl.injEq, V.ref.injEq, List.cons.injEq, and_true, true_and, List.getElem?_cons_zero, List.getElem?_cons_succ, Option.some.injEq, List.append_nil, exists_and_left, cxOf_K, false_and, and_false, exists_false, false_or, or_false, exists_eq', exists_const, sg_eq, S_eq, S_toList, S_ne, tFor_eq, tLc_eq, iList_eq, iTup_eq, iRng1_eq, iStr_eq, decide_eq_true_eq, Bool.not_eq_true', decide_eq_false_iff_not, if_true, if_false, Bool.false_eq_true, reduceCtorEq, Bool.true_eq_false, decide_true, decide_false]
    refine ite2 (fun _ => ⟨(size_le (by simp only [List.length_cons, List.length_nil]; decide)), ?_⟩) (fun _ => ?_)
    · (intro p np; generalize hqp : upd _ p _ = H3; obtain ⟨G3, gp, e3, B3, f3⟩ := alB_ B2 np hqp; clear hqp np)
      refine take_ B3 (by decide) (by decide) fun r3 H4 hr3 B4 => ⟨_, _, rfl, sq_of (B4.ex _ _ f3), ?_⟩
      match r3, hr3 with
      | 0, _ => exact ⟨_, rfl, fin _ _ ⟨1, rfl, by decide, by decide, B4.weak e3⟩⟩
      | 1, _ => exact ⟨_, rfl, fin _ _ ⟨2, rfl, by decide, by decide, B4.weak e3⟩⟩
      | 2, _ => exact ⟨_, rfl, fin _ _ ⟨4, rfl, by decide, by decide, B4.weak e3⟩⟩
      | 3, _ => exact ⟨_, rfl, fin _ _ ⟨3, rfl, by decide, by decide, B4.weak e3⟩⟩
      | 4, _ => exact ⟨_, rfl, fin _ _ ⟨5, rfl, by decide, by decide, B4.weak e3⟩⟩
      | 5, _ => exact ⟨_, rfl, fin _ _ ⟨512, rfl, by decide, by decide, B4.weak e3⟩⟩
      | n + 6, h => exact absurd h (by omega)
    · refine fin _ _ ⟨1 + r1, ?_, by omega, by omega, B2⟩
      rw [Int.natCast_add]
      rfl
  rintro σ H2 ⟨n, rfl, h1, h2, B2⟩
  simp only [tSeq, tAsg, tAnd, tOr, tNot, tTest, tB, tOp, tUn, tCB, tCons, tNil, tVar, tC, gName, rI0, rI, rU, rEq, rNe, rIxS, rIxL, rIxT, tRet, tRetN, tTup, tLst, tSl, tPart, tNoPart, rSlS, tIf, tIfS, tNext, tDrop, tCall, tBM, tBM0, tAndV, tOrV, tNotV, tM0, tM1, gSub, rSetL, sFld, gCons_eq, gNil_eq, tCallS_eq, tDGet, sDPut, tMeth, tMake, tFld, tChain, tIsN, tNotN,
  List.set_cons_zero, List.set_cons_succ, exists_eq_left', exists_eq_left, exists_eq, V.int.injEq, V.str.injEq, V.bl.injEq, V.ref.injEq, List.cons.injEq, and_true, true_and, List.getElem?_cons_zero, List.getElem?_cons_succ, Option.some.injEq, List.append_nil, exists_and_left, cxOf_K, false_and, and_false, exists_false, false_or, or_false, exists_eq', exists_const, sg_eq, S_eq, S_toList, S_ne, tFor_eq, tLc_eq, iList_eq, iTup_eq, iRng1_eq, iStr_eq, decide_eq_true_eq, Bool.not_eq_true', decide_eq_false_iff_not, if_true, if_false, Bool.false_eq_true, reduceCtorEq, Bool.true_eq_false, decide_true, decide_false]
  refine ⟨by decide, by decide, fun L hL => ?_⟩
  refine comp_range (n := 10) (fun i acc H4 => acc = (((List.range i).filter fun k => n / 2 ^ k % 2 == 1).map fun k => V.str (S [97 + k])) ∧ Same H2 H4) (by decide) ⟨rfl, same_new hL⟩ upd_same ?_ ?_
  · rintro i acc H4 hi hA hn hi2 ⟨rfl, s4⟩
    simp only [wipe, List.map_cons, List.map_nil, List.set_cons_succ, List.set_cons_zero, tSeq, tAsg, tAnd, tOr, tNot, tTest, tB, tOp, tUn, tCB, tCons, tNil, tVar, tC, gName, rI0, rI, rU, rEq, rNe, rIxS, rIxL, rIxT, tRet, tRetN, tTup, tLst, tSl, tPart, tNoPart, rSlS, tIf, tIfS, tNext, tDrop, tCall, tBM, tBM0, tAndV, tOrV, tNotV, tM0, tM1, gSub, rSetL, sFld, gCons_eq, gNil_eq, tCallS_eq, tDGet, sDPut, tMeth, tMake, tFld, tChain, tIsN, tNotN,
  List.set_cons_zero, List.set_cons_succ, exists_eq_left', exists_eq_left, exists_eq, V.int.injEq, V.str.injEq, V.bl.injEq, V.ref.injEq, List.cons.injEq, and_true, true_and, List.getElem?_cons_zero, List.getElem?_cons_succ, Option.some.injEq, List.append_nil, exists_and_left, cxOf_K, false_and, and_false, exists_false, false_or, or_false, exists_eq', exists_const, sg_eq, S_eq, S_toList, S_ne, tFor_eq, tLc_eq, iList_eq, iTup_eq, iRng1_eq, iStr_eq, decide_eq_true_eq, Bool.not_eq_true', decide_eq_false_iff_not, if_true, if_false, Bool.false_eq_true, reduceCtorEq, Bool.true_eq_false, decide_true, decide_false]
    refine ⟨(size_le (by simp only [List.length_cons, List.length_nil]; decide)), fun p np => ?_⟩
    obtain ⟨e1, e2⟩ : atI [V.int 1, V.int 2, V.int 4, V.int 8, V.int 16, V.int 32, V.int 64, V.int 128, V.int 256, V.int 512] (i : Int) = some (.int ((2 ^ i : Nat) : Int)) ∧ atI [97, 98, 99, 100, 101, 102, 103, 104, 105, 106] (i : Int) = some (97 + i) := bits_at i hi
    have hA2 : (upd H4 p (.lst [V.int 1, V.int 2, V.int 4, V.int 8, V.int 16, V.int 32, V.int 64, V.int 128, V.int 256, V.int 512])) L = some (.lst (((List.range i).filter fun k => n / 2 ^ k % 2 == 1).map fun k => V.str (S [97 + k]))) := by
      rw [upd_ne (ne_of_none hA np)]
      exact hA
    refine ⟨_, sq_of upd_same, _, e1, _, rfl, CDivN_ok _ _ (Nat.two_pow_pos i) (pow_lt10 i hi), by decide, ?_⟩
    rw [bit_test]
    have e3 : (List.range (i + 1)).filter (fun k => n / 2 ^ k % 2 == 1) = if n / 2 ^ i % 2 == 1 then (List.range i).filter (fun k => n / 2 ^ k % 2 == 1) ++ [i] else (List.range i).filter (fun k => n / 2 ^ k % 2 == 1) := by
      rw [List.range_succ, List.filter_append]
      cases hb : n / 2 ^ i % 2 == 1 <;> simp [hb]
    cases hb : n / 2 ^ i % 2 == 1 with
    | true =>
      rw [hb] at e3
      simp only [if_true] at e3 ⊢
      refine ⟨(size_le (by (try simp only [S_len, List.length_append, List.length_cons, List.length_nil]); omega)), _, e2, cput hA2 hn hi2 ⟨?_, same_mut (s4.trans (same_new np)) hL⟩⟩
      rw [e3, List.map_append]
      rfl
    | false =>
      rw [hb] at e3
      simp only [Bool.false_eq_true, if_false] at e3 ⊢
      refine cskip hA2 hn ⟨?_, s4.trans (same_new np)⟩
      rw [e3]
  · rintro acc H4 hA hn ⟨rfl, s4⟩
    have e1 : (((List.range 10).filter fun k => n / 2 ^ k % 2 == 1).map fun k => V.str (S [97 + k])) = ((strokeT n).map fun c => S [c]).map V.str := by
      rw [strokeT, List.map_map, List.map_map]
      rfl
    rw [e1] at hA
    have h10 := stroke_ok n (by omega) h1
    refine ⟨L, rfl, _, .inl (sq_of hA), signs_size _ (by omega), ?_⟩
    rw [join_signs]
    exact k n H4 h1 h2 (B2.same s4)
theorem stroke_ {b : Addr} {G H : Hp} {Q : VK} {E : XK} (B : Bx b G H) (k : ∀ (n : Nat) H', 1 ≤ n → n ≤ 1023 → Bx b G H' → Q (.str (S (strokeT n))) H') : sp_stroke [.ref b] H Q E := ⟨b, G, rfl, B, k⟩
end
/-! ### strokes: what the program says of texts -/
theorem op_strmul {X : Cx} : OpR X (binaryOp .Mult) (fun x y H Q => ∃ (z : Str) (i : Int), x = .str z ∧ y = .int i ∧ z.length ≤ 16 ∧ 0 ≤ i ∧ i ≤ 16 ∧ Q (.str (Txt.mul z i)) H) := by
  intro pins s σ H x y v u Q I rx ry h
  obtain ⟨z, i, rfl, rfl, h1, h2, h3, q⟩ := h
  obtain ⟨t, rfl⟩ := rx
  obtain ⟨t2, rfl⟩ := ry
  refine SB.mul (mulOk_of 16 16 h1 h3 (by omega) (by decide) (by decide)) fun t' k => ⟨.str (Txt.mul z i), H, I.tok _, ⟨_, rfl⟩, q⟩
def posK (c : Nat) : Int := if 97 ≤ c ∧ c ≤ 106 then (c : Int) - 97 else -1
abbrev keysT : Tx := [97, 98, 99, 100, 101, 102, 103, 104, 105, 106]
theorem find_pos : ∀ c, c < 128 → Txt.find (S keysT) (S [c]) = posK c := by decide +kernel
theorem pos_ge (c : Nat) : -1 ≤ posK c := by
  unfold posK
  split <;> omega
def incr : Int → Tx → Bool
  | _, [] => true
  | l, c :: r => decide (l < posK c) && incr (posK c) r
def strokeOk (t : Tx) : Bool := !t.isEmpty && incr (-1) t
theorem strokeOk_T : ∀ n, n < 1024 → 1 ≤ n → strokeOk (strokeT n) = true := by decide +kernel
abbrev CBad (K : PySem.W.Frag) : Value := .ref (He.ga K "BadStroke")
def sp_need (K : PySem.W.Frag) : Sp := fun vs H Q E => ∃ t : Tx, vs = [.str (S t)] ∧ asc t ∧ t.length ≤ 1000000 ∧ (strokeOk t = true → Q .non H) ∧ (strokeOk t = false → E (CBad K) none H)
abbrev s_need_stroke : Stmt := (top 9)
theorem sc_need_stroke : FnScope ["text", "last", "key", "place"] ["text"] (defScope s_need_stroke) := ⟨rfl, rfl, rfl, by decide +kernel, rfl, by decide +kernel, by decide +kernel⟩

section
variable {P : Program} {w : World} {K : PySem.W.Frag} {mg : Str → Option Value} {base : Heap}
theorem ok_need {f : Addr} {fd : FuncData} (F : FunS K "need_stroke" s_need_stroke f fd) (g_KEYS : ∃ u, mg "KEYS" = some u ∧ RelV (.str (S [97, 98, 99, 100, 101, 102, 103, 104, 105, 106])) u) (ex : ExF K mg) : FnOk P w K mg base (L2.CX P w) 1 f fd ["text"] (sp_need K) := by
  refine F.ok sc_need_stroke (fun vs H Q E h => ?_) (fun cdv A outer s H vs Q E hr h => ?_)
  · obtain ⟨t, rfl, _⟩ := h
    rfl
  obtain ⟨t, rfl, ha, hl, ky, kn⟩ := h
  refine ⟨_, (pss_cons (ps_set (i := 1) sc_need_stroke.nd rfl (.inl rfl) (pe_un un_neg pe_int))
  (pss_cons (ps_for (passes_of rfl) rfl (pi_str (pv 0)) (pg_name (i := 2) sc_need_stroke.nd rfl (.inl rfl))
    (pss_cons (ps_set (i := 3) sc_need_stroke.nd rfl (.inl rfl) (pe_m1 PySem.F.slot_str_find PySem.F.type_str_find mt_find (pe_gc (by rfl) g_KEYS) (pv 2)))
  (pss_cons (ps_if (pt_cmpR op_le (pv 3) (pv 1) (nomark _))
    (pss_one (ps_raise rfl (takes_of rfl rfl rfl rfl) (pmk_own PySem.F.excBase_ValueError ex.x_BadStroke ex.g_BadStroke ex.k_BadStroke (raises_own ex.b_BadStroke ex.t_BadStroke) rfl)))
    pss_nil)
  (pss_one (ps_set (i := 1) sc_need_stroke.nd rfl (.inl rfl) (pv 3))))))
  (pss_one (ps_if (pt_cmpR op_lt (pv 1) pe_int (nomark _))
    (pss_one (ps_raise rfl (takes_of rfl rfl rfl rfl) (pmk_own PySem.F.excBase_ValueError ex.x_BadStroke ex.g_BadStroke ex.k_BadStroke (raises_own ex.b_BadStroke ex.t_BadStroke) rfl)))
    pss_nil)))), ?_⟩
  simp only [tSeq, tAsg, tAnd, tOr, tNot, tTest, tB, tOp, tUn, tCB, tCons, tNil, tVar, tC, gName, rI0, rI, rU, rEq, rNe, rIxS, rIxL, rIxT, tRet, tRetN, tTup, tLst, tSl, tPart, tNoPart, rSlS, tIf, tNext, tDrop, tCall, tBM, tBM0, tAndV, tOrV, tNotV, tM0, tM1, gSub, rSetL, sFld, gCons_eq, gNil_eq, tCallS_eq, tDGet, sDPut, tMeth, tMake, tFld, tChain, tIsN, tNotN,
  List.set_cons_zero, List.set_cons_succ, exists_eq_left', exists_eq_left, exists_eq, V.int.injEq, V.str.injEq, V.bl.injEq, V.ref.injEq, List.cons.injEq, and_true, true_and, List.getElem?_cons_zero, List.getElem?_cons_succ, Option.some.injEq, List.append_nil, exists_and_left, cxOf_K, false_and, and_false, exists_false, false_or, or_false, exists_eq', exists_const, sg_eq, S_eq, S_toList, S_ne, tFor_eq, tLc_eq, iList_eq, iTup_eq, iRng1_eq, iStr_eq, decide_eq_true_eq, Bool.not_eq_true', decide_eq_false_iff_not, if_true, if_false, Bool.false_eq_true, reduceCtorEq, Bool.true_eq_false, decide_true, decide_false, lit_110_111_32_107_101_121, lit_110_111_32_115_116_114_111_107_101, start1_4]
  refine loop_str t (fun rest σ H' => H' = H ∧ ∃ (done : Tx) (l : Int) (y2 y3 : Option V), t = done ++ rest ∧ σ = [some (.str (S t)), some (.int l), y2, y3] ∧ (done = [] ∧ l = -1 ∨ done ≠ [] ∧ -1 < l) ∧ incr (-1) t = incr l rest) ⟨rfl, [], -1, none, none, rfl, rfl, .inl ⟨rfl, rfl⟩, rfl⟩ ?_ ?_
  · rintro c r σ _ ⟨rfl, done, l, y2, y3, e, rfl, hl2, hi⟩
    simp only [tSeq, tAsg, tAnd, tOr, tNot, tTest, tB, tOp, tUn, tCB, tCons, tNil, tVar, tC, gName, rI0, rI, rU, rEq, rNe, rIxS, rIxL, rIxT, tRet, tRetN, tTup, tLst, tSl, tPart, tNoPart, rSlS, tIf, tNext, tDrop, tCall, tBM, tBM0, tAndV, tOrV, tNotV, tM0, tM1, gSub, rSetL, sFld, gCons_eq, gNil_eq, tCallS_eq, tDGet, sDPut, tMeth, tMake, tFld, tChain, tIsN, tNotN,
  List.set_cons_zero, List.set_cons_succ, exists_eq_left', exists_eq_left, exists_eq, V.int.injEq, V.str.injEq, V.bl.injEq, V.ref.injEq, List.cons.injEq, and_true, true_and, List.getElem?_cons_zero, List.getElem?_cons_succ, Option.some.injEq, List.append_nil, exists_and_left, cxOf_K, false_and, and_false, exists_false, false_or, or_false, exists_eq', exists_const, sg_eq, S_eq, S_toList, S_ne, tFor_eq, tLc_eq, iList_eq, iTup_eq, iRng1_eq, iStr_eq, decide_eq_true_eq, Bool.not_eq_true', decide_eq_false_iff_not, if_true, if_false, Bool.false_eq_true, reduceCtorEq, Bool.true_eq_false, decide_true, decide_false]
    rw [find_pos c (ha c (by rw [e]; exact List.mem_append_right _ List.mem_cons_self))]
    simp only [tSeq, tAsg, tAnd, tOr, tNot, tTest, tB, tOp, tUn, tCB, tCons, tNil, tVar, tC, gName, rI0, rI, rU, rEq, rNe, rIxS, rIxL, rIxT, tRet, tRetN, tTup, tLst, tSl, tPart, tNoPart, rSlS, tIf, tIfS, tNext, tDrop, tCall, tBM, tBM0, tAndV, tOrV, tNotV, tM0, tM1, gSub, rSetL, sFld, gCons_eq, gNil_eq, tCallS_eq, tDGet, sDPut, tMeth, tMake, tFld, tChain, tIsN, tNotN,
  List.set_cons_zero, List.set_cons_succ, exists_eq_left', exists_eq_left, exists_eq, V.int.injEq, V.str.injEq, V.bl.injEq, V.ref.injEq, List.cons.injEq, and_true, true_and, List.getElem?_cons_zero, List.getElem?_cons_succ, Option.some.injEq, List.append_nil, exists_and_left, cxOf_K, false_and, and_false, exists_false, false_or, or_false, exists_eq', exists_const, sg_eq, S_eq, S_toList, S_ne, tFor_eq, tLc_eq, iList_eq, iTup_eq, iRng1_eq, iStr_eq, decide_eq_true_eq, Bool.not_eq_true', decide_eq_false_iff_not, if_true, if_false, Bool.false_eq_true, reduceCtorEq, Bool.true_eq_false, decide_true, decide_false]
    have ei : incr l (c :: r) = (decide (l < posK c) && incr (posK c) r) := rfl
    rw [ei] at hi
    have ne : strokeOk t = incr (-1) t := by
      cases t with
      | nil => exact absurd (congrArg List.length e) (by simp)
      | cons a b => rfl
    refine ite2 (fun h => kn ?_) (fun h => ⟨done ++ [c], by rw [e]; simp, posK c, _, _, ⟨rfl, rfl, rfl⟩, .inr ⟨by simp, ?_⟩, ?_⟩)
    · rw [ne, hi, decide_eq_false (by omega)]
      rfl
    · rcases hl2 with h2 | h2
      · omega
      · omega
    · rw [hi, decide_eq_true (by omega)]
      rfl
  · rintro σ _ ⟨rfl, done, l, y2, y3, e, rfl, hl2, hi⟩
    simp only [tSeq, tAsg, tAnd, tOr, tNot, tTest, tB, tOp, tUn, tCB, tCons, tNil, tVar, tC, gName, rI0, rI, rU, rEq, rNe, rIxS, rIxL, rIxT, tRet, tRetN, tTup, tLst, tSl, tPart, tNoPart, rSlS, tIf, tIfS, tNext, tDrop, tCall, tBM, tBM0, tAndV, tOrV, tNotV, tM0, tM1, gSub, rSetL, sFld, gCons_eq, gNil_eq, tCallS_eq, tDGet, sDPut, tMeth, tMake, tFld, tChain, tIsN, tNotN,
  List.set_cons_zero, List.set_cons_succ, exists_eq_left', exists_eq_left, exists_eq, V.int.injEq, V.str.injEq, V.bl.injEq, V.ref.injEq, List.cons.injEq, and_true, true_and, List.getElem?_cons_zero, List.getElem?_cons_succ, Option.some.injEq, List.append_nil, exists_and_left, cxOf_K, false_and, and_false, exists_false, false_or, or_false, exists_eq', exists_const, sg_eq, S_eq, S_toList, S_ne, tFor_eq, tLc_eq, iList_eq, iTup_eq, iRng1_eq, iStr_eq, decide_eq_true_eq, Bool.not_eq_true', decide_eq_false_iff_not, if_true, if_false, Bool.false_eq_true, reduceCtorEq, Bool.true_eq_false, decide_true, decide_false]
    rw [List.append_nil] at e
    subst e
    rcases hl2 with ⟨h1, h2⟩ | ⟨h1, h2⟩
    · subst h1
      rw [if_pos (by omega)]
      exact kn rfl
    · rw [if_neg (by omega)]
      refine ky ?_
      have e2 : strokeOk t = incr (-1) t := by
        cases t with
        | nil => exact absurd rfl h1
        | cons a b => rfl
      rw [e2, hi]
      rfl
end
/-! ### a stroke's number -/
section
open PyProof.Rows
def distI (ns : List Int) : Nat := (firstMet (fun i => ns.getD i 0) ns.length).length
def tLenSetG (K : PySem.W.Frag) (ta : TE) : TE := fun σ H Q => ta σ H fun x H1 => ∃ (l : Addr) (ns : List Int), x = .ref l ∧ SqL K H1 l (ns.map V.int) ∧ ns.length ≤ 1000 ∧ Q (.int (distI ns : Nat)) H1
theorem ints_vals : ∀ {ns : List Int} {us : List Value}, Vals (ns.map V.int) us → IntsAre us ns
  | [], _, .nil => .nil
  | n :: ns, _, .cons r t => by
    obtain ⟨k, rfl⟩ := r
    exact .cons n k (ints_vals t)
/-- len(set(xs)), any ints -/
theorem pe_lenSetG {X : Cx} {a : Expr} {ta : TE} {p p2 q pos : Pos} (hg : Gl X "len") (hm : X.mg "len" = none) (hg2 : Gl X "set") (hm2 : X.mg "set" = none) (ha : PE X a ta) (hc : X.calm = true := by rfl)
    (na : starEach [a] X.env = (false, eval a X.env) :: starEach [] X.env := by rfl) : PE X (.Call (.Name "len" p) [.Call (.Name "set" p2) [a] [] q] [] pos) (tLenSetG X.K ta) := by
  refine ⟨fun pins s σ H Q I h => ?_⟩
  refine Call_ (ld_blt I hg hm PySem.boot_len ?_)
  refine callWith_builtin1 (args_cons ?_ rfl) rfl rfl
  refine Call_ (ld_blt I hg2 hm2 boot_set ?_)
  refine callWith_type1 (args_cons (thn (ha.run pins s σ H _ I h) fun v s1 ⟨x, H1, I1, r1, q1⟩ => args_nil ?_) na) na rfl
  obtain ⟨l, ns, rfl, hq, hl, q1⟩ := q1
  cases r1
  obtain ⟨its, r, pl, hz⟩ := I1.list hq
  have hlen : its.toArray.size = ns.length := by rw [List.size_toArray, ← r.length, List.length_map]
  refine call_set_list (I1.ok.hd hc) pl.isList (by simpa using ints_vals r) (by rw [hlen]; unfold scanBound; omega) fun h' tk hS hk => ?_
  refine args_nil ?_
  rw [hlen] at hS
  obtain ⟨o, es, ep, t, ho, hex, hd, _, _, _, hf, hn⟩ := hS
  have I2 : Inv X pins σ H1 { s1 with heap := h', toks := tk } := I1.kept fun b o e => hk b o (Heap.lt_size e) e
  have hle := firstMet_length_le (fun i => ns.getD i 0) ns.length
  exact call_len_set ho hex hd hf (by rw [hn] <;> omega) ⟨.int (distI ns : Nat), H1, I2.tok _, ⟨_, by rw [hn]; rfl⟩, q1⟩
end
theorem dist_fold (ns : List Int) : distI ns = (ns.foldl PyProof.Rows.step_dedup []).length := by
  unfold distI PyProof.Rows.firstMet
  congr 2
  refine List.ext_getElem (by simp) fun i h1 h2 => ?_
  simp only [List.getElem_map, List.getElem_range]
  rw [List.getD_eq_getElem?_getD, List.getElem?_eq_getElem h2]
  rfl
theorem fold_le : ∀ (ns acc : List Int), (ns.foldl PyProof.Rows.step_dedup acc).length ≤ acc.length + ns.length
  | [], acc => by simp
  | n :: r, acc => by
    have ih := fold_le r (PyProof.Rows.step_dedup acc n)
    rw [List.foldl_cons, List.length_cons]
    have : (PyProof.Rows.step_dedup acc n).length ≤ acc.length + 1 := by
      unfold PyProof.Rows.step_dedup
      split
      · omega
      · simp
    omega
theorem fold_eq : ∀ (ns acc : List Int), ns.Nodup → (∀ x ∈ ns, x ∉ acc) → (ns.foldl PyProof.Rows.step_dedup acc).length = acc.length + ns.length
  | [], acc, _, _ => by simp
  | n :: r, acc, hn, hd => by
    have h1 : PyProof.Rows.step_dedup acc n = acc ++ [n] := by
      unfold PyProof.Rows.step_dedup
      rw [if_neg]
      intro h
      obtain ⟨x, hx, e⟩ := List.any_eq_true.mp h
      have : x = n := by simpa using e
      exact hd n List.mem_cons_self (this ▸ hx)
    rw [List.nodup_cons] at hn
    rw [List.foldl_cons, h1, fold_eq r (acc ++ [n]) hn.2 fun x hx z => ?_]
    · rw [List.length_append, List.length_singleton, List.length_cons]
      omega
    · rcases List.mem_append.mp z with z | z
      · exact hd x (List.mem_cons_of_mem _ hx) z
      · exact hn.1 (List.mem_singleton.mp z ▸ hx)
theorem fold_nd : ∀ (ns acc : List Int), (ns.foldl PyProof.Rows.step_dedup acc).length = acc.length + ns.length → ns.Nodup ∧ ∀ x ∈ ns, x ∉ acc
  | [], acc, _ => ⟨.nil, fun x hx => nomatch hx⟩
  | n :: r, acc, h => by
    rw [List.foldl_cons, List.length_cons] at h
    by_cases hm : acc.any (· == n) = true
    · have h1 : PyProof.Rows.step_dedup acc n = acc := by
        unfold PyProof.Rows.step_dedup
        rw [if_pos hm]
      rw [h1] at h
      have := fold_le r acc
      omega
    · have h1 : PyProof.Rows.step_dedup acc n = acc ++ [n] := by
        unfold PyProof.Rows.step_dedup
        rw [if_neg hm]
      rw [h1] at h
      obtain ⟨h2, h3⟩ := fold_nd r (acc ++ [n]) (by rw [List.length_append, List.length_singleton]; omega)
      refine ⟨List.nodup_cons.mpr ⟨fun z => h3 n z (by simp), h2⟩, fun x hx z => ?_⟩
      rcases List.mem_cons.mp hx with e | e
      · rw [e] at z
        exact hm (List.any_eq_true.mpr ⟨n, z, by simp⟩)
      · exact h3 x e (List.mem_append_left _ z)
theorem dist_nd (ns : List Int) : distI ns = ns.length ↔ ns.Nodup := by
  rw [dist_fold]
  constructor
  · intro h
    exact (fold_nd ns [] (by simpa using h)).1
  · intro h
    simpa using fold_eq ns [] h (fun _ _ z => nomatch z)
def placesT (t : Tx) : List Int := t.map posK
theorem incr_iff : ∀ (t : Tx) (l : Int), incr l t = true ↔ (∀ x ∈ placesT t, l < x) ∧ (placesT t).Pairwise (· < ·)
  | [], l => by simp [incr, placesT]
  | c :: r, l => by
    have ih := incr_iff r (posK c)
    simp only [incr, Bool.and_eq_true, decide_eq_true_eq, ih, placesT, List.map_cons, List.pairwise_cons, List.forall_mem_cons]
    constructor
    · rintro ⟨h1, h2, h3⟩
      exact ⟨⟨h1, fun x hx => Int.lt_trans h1 (h2 x hx)⟩, h2, h3⟩
    · rintro ⟨⟨h1, _⟩, h2, h3⟩
      exact ⟨h1, h2, h3⟩
/-- the law's look at a text's places -/
theorem good_iff (t : Tx) : strokeOk t = true ↔ t ≠ [] ∧ -1 ∉ placesT t ∧ (placesT t).Pairwise (· ≤ ·) ∧ distI (placesT t) = (placesT t).length := by
  rw [strokeOk, Bool.and_eq_true, incr_iff, dist_nd, Bool.not_eq_true', ← Bool.not_eq_true, List.isEmpty_iff]
  constructor
  · rintro ⟨h1, h2, h3⟩
    refine ⟨h1, fun z => absurd (h2 _ z) (by decide), h3.imp fun h => Int.le_of_lt h, h3.imp fun h z => ?_⟩
    subst z
    exact absurd h (Int.lt_irrefl _)
  · rintro ⟨h1, h2, h3, h4⟩
    refine ⟨h1, fun x hx => ?_, ?_⟩
    · obtain ⟨c, hc, rfl⟩ := List.mem_map.mp hx
      have := pos_ge c
      have hne : posK c ≠ -1 := fun e => h2 (e ▸ hx)
      omega
    · exact (h3.and h4).imp fun ⟨a, b⟩ => by omega
def countC (i : Int) : Int := ((2 ^ i.toNat : Nat) : Int)
def numT (t : Tx) : Int := ((placesT t).map countC).sum
theorem numT_T : ∀ n, n < 1024 → numT (strokeT n) = (n : Int) := by decide +kernel
/-! ### number_of, stroke_of, what is told -/
def sp_number (K : PySem.W.Frag) : Sp := fun vs H Q E => ∃ t : Tx, vs = [.str (S t)] ∧ asc t ∧ t.length ≤ 100 ∧ (strokeOk t = true → ∀ H', Same H H' → Q (.int (numT t)) H') ∧ (strokeOk t = false → E (CBad K) none H)
abbrev s_number_of : Stmt := (top 10)
theorem sc_number_of : FnScope ["stroke", "key"] ["stroke"] (defScope s_number_of) := ⟨rfl, rfl, rfl, by decide +kernel, rfl, by decide +kernel, by decide +kernel⟩

section
variable {P : Program} {w : World} {K : PySem.W.Frag} {mg : Str → Option Value} {base : Heap}
theorem counts_at : ∀ i : Nat, i < 10 → atI ([1, 2, 4, 8, 16, 32, 64, 128, 256, 512].map V.int) (i : Int) = some (.int (countC i))
  | 0, _ | 1, _ | 2, _ | 3, _ | 4, _ | 5, _ | 6, _ | 7, _ | 8, _ | 9, _ => rfl
  | n + 10, h => absurd h (by omega)
theorem pos_nat {c : Nat} (h : posK c ≠ -1) : ∃ i : Nat, i < 10 ∧ posK c = (i : Int) ∧ c = 97 + i := by
  unfold posK at h ⊢
  split
  · rename_i hc
    exact ⟨c - 97, by omega, by omega, by omega⟩
  · rename_i hc
    rw [if_neg hc] at h
    exact absurd rfl h
theorem ok_number {f : Addr} {fd : FuncData} (F : FunS K "number_of" s_number_of f fd) (b_sum : mg "sum" = none) (g_COUNTS : ∃ u, mg "COUNTS" = some u ∧ RelV (.ref (He.ga K "COUNTS")) u) (t_COUNTS : ∀ H, SqT K H (He.ga K "COUNTS") ([1, 2, 4, 8, 16, 32, 64, 128, 256, 512].map V.int)) (g_KEYS : ∃ u, mg "KEYS" = some u ∧ RelV (.str (S [97, 98, 99, 100, 101, 102, 103, 104, 105, 106])) u) (c_need_stroke : CalX P w K mg base 1 "need_stroke" (sp_need K)) : FnOk P w K mg base (L2.CX P w) 2 f fd ["stroke"] (sp_number K) := by
  refine F.ok sc_number_of (fun vs H Q E h => ?_) (fun cdv A outer s H vs Q E hr h => ?_)
  · obtain ⟨t, rfl, _⟩ := h
    rfl
  obtain ⟨t, rfl, ha, hl, ky, kn⟩ := h
  refine ⟨_, (pss_cons (ps_expr (pe_cx c_need_stroke hr (by first | decide | omega) (by rfl) (passes_call (takes_of rfl rfl rfl rfl) fun _ _ _ _ h => h) (pa_cons (pv 0) pa_nil)))
  (pss_one (ps_ret (pe_callB (cr_sum rfl) (by rfl) b_sum (by decide +kernel) (pa_cons (pe_lc (own := [("key", 1)]) rfl sc_number_of.nd (pi_str (pv 0)) (blkOk_by (N := ["stroke", "key"]) (sc := defScope s_number_of) (own := [("key", 1)]) (by decide +kernel)) (fun _ _ _ _ _ => (pg_name (i := 1) sc_number_of.nd rfl (.inl rfl))) (fun _ _ _ _ _ => pts_nil) (fun _ _ _ _ _ => (pe_ix (ixK_tup (K := K) rfl) (pe_gc (by rfl) g_COUNTS) (pe_m1 PySem.F.slot_str_find PySem.F.type_str_find mt_find (pe_gc (by rfl) g_KEYS) (pv 1)) (fun _ _ => rfl)))) pa_nil))))), ?_⟩
  simp only [tSeq, tAsg, tAnd, tOr, tNot, tTest, tB, tOp, tUn, tCB, tCons, tNil, tVar, tC, gName, rI0, rI, rU, rEq, rNe, rIxS, rIxL, rIxT, tRet, tRetN, tTup, tLst, tSl, tPart, tNoPart, rSlS, tIf, tNext, tDrop, tCall, tBM, tBM0, tAndV, tOrV, tNotV, tM0, tM1, gSub, rSetL, sFld, gCons_eq, gNil_eq, tCallS_eq, tDGet, sDPut, tMeth, tMake, tFld, tChain, tIsN, tNotN,
  List.set_cons_zero, List.set_cons_succ, exists_eq_left', exists_eq_left, exists_eq, V.int.injEq, V.str.injEq, V.bl.injEq, V.ref.injEq, List.cons.injEq, and_true, true_and, List.getElem?_cons_zero, List.getElem?_cons_succ, Option.some.injEq, List.append_nil, exists_and_left, cxOf_K, false_and, and_false, exists_false, false_or, or_false, exists_eq', exists_const, sg_eq, S_eq, S_toList, S_ne, tFor_eq, tLc_eq, iList_eq, iTup_eq, iRng1_eq, iStr_eq, decide_eq_true_eq, Bool.not_eq_true', decide_eq_false_iff_not, if_true, if_false, Bool.false_eq_true, reduceCtorEq, Bool.true_eq_false, decide_true, decide_false, true_and, start1_2]
  refine ⟨t, rfl, ha, by omega, fun ok => ?_, kn⟩
  obtain ⟨h1, h2, _, _⟩ := (good_iff t).mp ok
  intro L hL
  refine comp_str t (fun rest acc H1 => ∃ done, t = done ++ rest ∧ acc = ((placesT done).map countC).map V.int ∧ Same H H1) (by omega) ⟨[], rfl, rfl, same_new hL⟩ upd_same ?_ ?_
  · rintro i c r acc H1 hA hn hi ⟨done, e, rfl, s1⟩
    simp only [wipe, List.map_cons, List.map_nil, List.set_cons_succ, List.set_cons_zero, tSeq, tAsg, tAnd, tOr, tNot, tTest, tB, tOp, tUn, tCB, tCons, tNil, tVar, tC, gName, rI0, rI, rU, rEq, rNe, rIxS, rIxL, rIxT, tRet, tRetN, tTup, tLst, tSl, tPart, tNoPart, rSlS, tIf, tIfS, tNext, tDrop, tCall, tBM, tBM0, tAndV, tOrV, tNotV, tM0, tM1, gSub, rSetL, sFld, gCons_eq, gNil_eq, tCallS_eq, tDGet, sDPut, tMeth, tMake, tFld, tChain, tIsN, tNotN,
  List.set_cons_zero, List.set_cons_succ, exists_eq_left', exists_eq_left, exists_eq, V.int.injEq, V.str.injEq, V.bl.injEq, V.ref.injEq, List.cons.injEq, and_true, true_and, List.getElem?_cons_zero, List.getElem?_cons_succ, Option.some.injEq, List.append_nil, exists_and_left, cxOf_K, false_and, and_false, exists_false, false_or, or_false, exists_eq', exists_const, sg_eq, S_eq, S_toList, S_ne, tFor_eq, tLc_eq, iList_eq, iTup_eq, iRng1_eq, iStr_eq, decide_eq_true_eq, Bool.not_eq_true', decide_eq_false_iff_not, if_true, if_false, Bool.false_eq_true, reduceCtorEq, Bool.true_eq_false, decide_true, decide_false]
    have hc : c ∈ t := by rw [e]; exact List.mem_append_right _ List.mem_cons_self
    obtain ⟨j, hj, ej, _⟩ := pos_nat (c := c) fun z => h2 (z ▸ List.mem_map.mpr ⟨c, hc, rfl⟩)
    unfold tYes
    simp only [if_true]
    have ef : Txt.find (S [97, 98, 99, 100, 101, 102, 103, 104, 105, 106]) (S [c]) = (j : Int) := (find_pos c (ha c hc)).trans ej
    rw [ef]
    refine ⟨_, t_COUNTS H1, _, counts_at j hj, cput hA hn hi ⟨done ++ [c], by rw [e]; simp, ?_, same_mut s1 hL⟩⟩
    simp only [placesT, List.map_append, List.map_cons, List.map_nil, ej]
  · rintro acc H1 hA hn ⟨done, e, rfl, s1⟩
    rw [List.append_nil] at e
    subst e
    exact ⟨L, (placesT t).map countC, rfl, sq_of hA, ky ok _ s1⟩
def sp_strokeof (K : PySem.W.Frag) : Sp := fun vs H Q E => ∃ i : Int, vs = [.int i] ∧ (1 ≤ i ∧ i < 1024 → ∀ H', Same H H' → Q (.str (S (strokeT i.toNat))) H') ∧ (¬ (1 ≤ i ∧ i < 1024) → E (CBad K) none H)
abbrev s_stroke_of : Stmt := (top 11)
theorem sc_stroke_of : FnScope ["number", "k"] ["number"] (defScope s_stroke_of) := ⟨rfl, rfl, rfl, by decide +kernel, rfl, by decide +kernel, by decide +kernel⟩

theorem ok_strokeof {f : Addr} {fd : FuncData} (F : FunS K "stroke_of" s_stroke_of f fd) (b_len : mg "len" = none) (b_range : mg "range" = none) (g_KEYS : ∃ u, mg "KEYS" = some u ∧ RelV (.str (S [97, 98, 99, 100, 101, 102, 103, 104, 105, 106])) u) (g_COUNTS : ∃ u, mg "COUNTS" = some u ∧ RelV (.ref (He.ga K "COUNTS")) u) (t_COUNTS : ∀ H, SqT K H (He.ga K "COUNTS") ([1, 2, 4, 8, 16, 32, 64, 128, 256, 512].map V.int)) (ex : ExF K mg) : FnOk P w K mg base (L2.CX P w) 1 f fd ["number"] (sp_strokeof K) := by
  refine F.ok sc_stroke_of (fun vs H Q E h => ?_) (fun cdv A outer s H vs Q E hr h => ?_)
  · obtain ⟨i, rfl, _⟩ := h
    rfl
  obtain ⟨i, rfl, ky, kn⟩ := h
  refine ⟨_, (pss_cons (ps_if (pt_not (pt_chain op_le op_lt pe_int (pv 0) pe_int))
    (pss_one (ps_raise rfl (takes_of rfl rfl rfl rfl) (pmk_own PySem.F.excBase_ValueError ex.x_BadStroke ex.g_BadStroke ex.k_BadStroke (raises_own ex.b_BadStroke ex.t_BadStroke) rfl)))
    pss_nil)
  (pss_one (ps_ret (pe_join pe_str (pe_lc (own := [("k", 1)]) rfl sc_stroke_of.nd (pi_range1 (by rfl) b_range (pa_cons (pe_callB call_len_str (by rfl) b_len PySem.boot_len (pa_cons (pe_gc (by rfl) g_KEYS) pa_nil)) pa_nil)) (blkOk_by (N := ["number", "k"]) (sc := defScope s_stroke_of) (own := [("k", 1)]) (by decide +kernel)) (fun _ _ _ _ _ => (pg_name (i := 1) sc_stroke_of.nd rfl (.inl rfl))) (fun _ _ _ _ _ => (pts_one (pt_cmpR op_eq (pe_op op_mod (pe_op op_fdivN (pv 0) (pe_ix (ixK_tup (K := K) rfl) (pe_gc (by rfl) g_COUNTS) (pv 1) (fun _ _ => rfl))) pe_int) pe_int (nomark _)))) (fun _ _ _ _ _ => (pe_ix ix_str (pe_gc (by rfl) g_KEYS) (pv 1) (fun _ _ => rfl)))))))), ?_⟩
  simp only [tSeq, tAsg, tAnd, tOr, tNot, tTest, tB, tOp, tUn, tCB, tCons, tNil, tVar, tC, gName, rI0, rI, rU, rEq, rNe, rIxS, rIxL, rIxT, tRet, tRetN, tTup, tLst, tSl, tPart, tNoPart, rSlS, tIf, tNext, tDrop, tCall, tBM, tBM0, tAndV, tOrV, tNotV, tM0, tM1, gSub, rSetL, sFld, gCons_eq, gNil_eq, tCallS_eq, tDGet, sDPut, tMeth, tMake, tFld, tChain, tIsN, tNotN,
  List.set_cons_zero, List.set_cons_succ, exists_eq_left', exists_eq_left, exists_eq, V.int.injEq, V.str.injEq, V.bl.injEq, V.ref.injEq, List.cons.injEq, and_true, true_and, List.getElem?_cons_zero, List.getElem?_cons_succ, Option.some.injEq, List.append_nil, exists_and_left, cxOf_K, false_and, and_false, exists_false, false_or, or_false, exists_eq', exists_const, sg_eq, S_eq, S_toList, S_ne, tFor_eq, tLc_eq, iList_eq, iTup_eq, iRng1_eq, iStr_eq, decide_eq_true_eq, Bool.not_eq_true', decide_eq_false_iff_not, if_true, if_false, Bool.false_eq_true, reduceCtorEq, Bool.true_eq_false, decide_true, decide_false, lit_110_111_32_110_117_109_98_101_114_32_111_102_32_97_32_115_116_114_111_107_101, lit_, start1_2]
  refine if_pure (!decide (1 ≤ i ∧ i < 1024)) (fun R rr => ?_) (fun e => ?_) (fun e => ?_)
  · simp only [tSeq, tAsg, tAnd, tOr, tNot, tTest, tB, tOp, tUn, tCB, tCons, tNil, tVar, tC, gName, rI0, rI, rU, rEq, rNe, rIxS, rIxL, rIxT, tRet, tRetN, tTup, tLst, tSl, tPart, tNoPart, rSlS, tIf, tIfS, tNext, tDrop, tCall, tBM, tBM0, tAndV, tOrV, tNotV, tM0, tM1, gSub, rSetL, sFld, gCons_eq, gNil_eq, tCallS_eq, tDGet, sDPut, tMeth, tMake, tFld, tChain, tIsN, tNotN,
  List.set_cons_zero, List.set_cons_succ, exists_eq_left', exists_eq_left, exists_eq, V.int.injEq, V.str.injEq, V.bl.injEq, V.ref.injEq, List.cons.injEq, and_true, true_and, List.getElem?_cons_zero, List.getElem?_cons_succ, Option.some.injEq, List.append_nil, exists_and_left, cxOf_K, false_and, and_false, exists_false, false_or, or_false, exists_eq', exists_const, sg_eq, S_eq, S_toList, S_ne, tFor_eq, tLc_eq, iList_eq, iTup_eq, iRng1_eq, iStr_eq, decide_eq_true_eq, Bool.not_eq_true', decide_eq_false_iff_not, if_true, if_false, Bool.false_eq_true, reduceCtorEq, Bool.true_eq_false, decide_true, decide_false]
    by_cases h1 : 1 ≤ i
    · rw [if_pos h1]
      have e9 : decide (1 ≤ i ∧ i < 1024) = decide (i < 1024) := by
        rw [Bool.eq_iff_iff]
        simp [h1]
      rw [e9] at rr
      exact rr
    · rw [if_neg h1]
      have e9 : decide (1 ≤ i ∧ i < 1024) = false := by simp [h1]
      rw [e9] at rr
      exact rr
  · refine kn fun z => ?_
    rw [decide_eq_true z] at e
    cases e
  have hi : 1 ≤ i ∧ i < 1024 := by
    rw [Bool.not_eq_false', decide_eq_true_eq] at e
    exact e
  simp only [tSeq, tAsg, tAnd, tOr, tNot, tTest, tB, tOp, tUn, tCB, tCons, tNil, tVar, tC, gName, rI0, rI, rU, rEq, rNe, rIxS, rIxL, rIxT, tRet, tRetN, tTup, tLst, tSl, tPart, tNoPart, rSlS, tIf, tIfS, tNext, tDrop, tCall, tBM, tBM0, tAndV, tOrV, tNotV, tM0, tM1, gSub, rSetL, sFld, gCons_eq, gNil_eq, tCallS_eq, tDGet, sDPut, tMeth, tMake, tFld, tChain, tIsN, tNotN,
  List.set_cons_zero, List.set_cons_succ, exists_eq_left', exists_eq_left, exists_eq, V.int.injEq, V.str.injEq, V.bl.injEq, V.ref.injEq, List.cons.injEq, and_true, true_and, List.getElem?_cons_zero, List.getElem?_cons_succ, Option.some.injEq, List.append_nil, exists_and_left, cxOf_K, false_and, and_false, exists_false, false_or, or_false, exists_eq', exists_const, sg_eq, S_eq, S_toList, S_ne, tFor_eq, tLc_eq, iList_eq, iTup_eq, iRng1_eq, iStr_eq, decide_eq_true_eq, Bool.not_eq_true', decide_eq_false_iff_not, if_true, if_false, Bool.false_eq_true, reduceCtorEq, Bool.true_eq_false, decide_true, decide_false]
  obtain ⟨n, rfl⟩ : ∃ n : Nat, i = (n : Int) := ⟨i.toNat, by omega⟩
  have h10 : ((S [97, 98, 99, 100, 101, 102, 103, 104, 105, 106]).length : Int).toNat = 10 := rfl
  refine ⟨by decide, by decide, by decide, fun L hL => ?_⟩
  rw [h10]
  refine comp_range (n := 10) (fun i acc H4 => acc = (((List.range i).filter fun k => n / 2 ^ k % 2 == 1).map fun k => V.str (S [97 + k])) ∧ Same H H4) (by decide) ⟨rfl, same_new hL⟩ upd_same ?_ ?_
  · rintro i acc H4 hi hA hn hi2 ⟨rfl, s4⟩
    simp only [wipe, List.map_cons, List.map_nil, List.set_cons_succ, List.set_cons_zero, tSeq, tAsg, tAnd, tOr, tNot, tTest, tB, tOp, tUn, tCB, tCons, tNil, tVar, tC, gName, rI0, rI, rU, rEq, rNe, rIxS, rIxL, rIxT, tRet, tRetN, tTup, tLst, tSl, tPart, tNoPart, rSlS, tIf, tIfS, tNext, tDrop, tCall, tBM, tBM0, tAndV, tOrV, tNotV, tM0, tM1, gSub, rSetL, sFld, gCons_eq, gNil_eq, tCallS_eq, tDGet, sDPut, tMeth, tMake, tFld, tChain, tIsN, tNotN,
  List.set_cons_zero, List.set_cons_succ, exists_eq_left', exists_eq_left, exists_eq, V.int.injEq, V.str.injEq, V.bl.injEq, V.ref.injEq, List.cons.injEq, and_true, true_and, List.getElem?_cons_zero, List.getElem?_cons_succ, Option.some.injEq, List.append_nil, exists_and_left, cxOf_K, false_and, and_false, exists_false, false_or, or_false, exists_eq', exists_const, sg_eq, S_eq, S_toList, S_ne, tFor_eq, tLc_eq, iList_eq, iTup_eq, iRng1_eq, iStr_eq, decide_eq_true_eq, Bool.not_eq_true', decide_eq_false_iff_not, if_true, if_false, Bool.false_eq_true, reduceCtorEq, Bool.true_eq_false, decide_true, decide_false]
    obtain ⟨_, e2⟩ := bits_at i hi
    refine ⟨_, t_COUNTS H4, _, counts_at i hi, _, rfl, ?_, by decide, rfl, ?_⟩
    · show CDivN (n : Int) ((2 ^ (i : Int).toNat : Nat) : Int)
      rw [Int.toNat_natCast]
      exact CDivN_ok _ _ (Nat.two_pow_pos i) (pow_lt10 i hi)
    have bt : ((n : Int).fdiv (countC i) % 2 = 1) ↔ (n / 2 ^ i % 2 == 1) = true := by
      have : countC i = ((2 ^ i : Nat) : Int) := by rw [countC, Int.toNat_natCast]
      rw [this, Int.fdiv_eq_ediv_of_nonneg _ (Int.natCast_nonneg _), ← Int.natCast_ediv, beq_iff_eq]
      omega
    have e3 : (List.range (i + 1)).filter (fun k => n / 2 ^ k % 2 == 1) = if n / 2 ^ i % 2 == 1 then (List.range i).filter (fun k => n / 2 ^ k % 2 == 1) ++ [i] else (List.range i).filter (fun k => n / 2 ^ k % 2 == 1) := by
      rw [List.range_succ, List.filter_append]
      cases hb : n / 2 ^ i % 2 == 1 <;> simp [hb]
    refine ite2 (fun h => ?_) (fun h => ?_)
    · have hb := bt.mp h
      rw [hb, if_pos rfl] at e3
      refine ⟨(size_le (by (try simp only [S_len, List.length_append, List.length_cons, List.length_nil]); omega)), _, e2, cput hA hn hi2 ⟨?_, same_mut s4 hL⟩⟩
      rw [e3, List.map_append]
      rfl
    · have hb : (n / 2 ^ i % 2 == 1) = false := by
        rw [← Bool.not_eq_true]
        exact fun z => h (bt.mpr z)
      rw [hb, if_neg (fun z => nomatch z)] at e3
      refine cskip hA hn ⟨?_, s4⟩
      rw [e3]
  · rintro acc H4 hA hn ⟨rfl, s4⟩
    have e1 : (((List.range 10).filter fun k => n / 2 ^ k % 2 == 1).map fun k => V.str (S [97 + k])) = ((strokeT n).map fun c => S [c]).map V.str := by
      rw [strokeT, List.map_map, List.map_map]
      rfl
    rw [e1] at hA
    have h10 := stroke_ok n (by omega) (by omega)
    refine ⟨L, rfl, _, .inl (sq_of hA), signs_size _ (by omega), ?_⟩
    rw [join_signs]
    have := ky hi H4 s4
    rw [Int.toNat_natCast] at this
    exact this
abbrev wBad : Tx := [98, 97, 100]
def badD : PyData := .tuple [.str (S wBad), .bool true]
theorem badOk {n : Nat} : okD (n + 2) badD := ⟨(by simp only [List.length_cons, List.length_nil]; decide), fun d hd => by
  simp only [List.mem_cons, List.not_mem_nil, or_false] at hd
  rcases hd with rfl | rfl
  · exact asc_ok (asc_of rfl)
  · trivial⟩
def sp_told (K : PySem.W.Frag) : Sp := fun vs H Q _ =>
  (∃ i : Int, vs = [.int 0, .int i] ∧ ∀ v H', Same H H' → Dp K H' v (if 1 ≤ i ∧ i < 1024 then .str (S (strokeT i.toNat)) else badD) → Q v H') ∨
  (∃ t : Tx, vs = [.int 1, .str (S t)] ∧ asc t ∧ t.length ≤ 100 ∧ ∀ v H', Same H H' → Dp K H' v (if strokeOk t then .int (numT t) else badD) → Q v H') ∨
  ∃ t : Tx, vs = [.int 2, .str (S t)] ∧ asc t ∧ t.length ≤ 100 ∧ ∀ v H', Same H H' → Dp K H' v (if strokeOk t then .none else badD) → Q v H'
theorem eqv_bools : ∀ a b c d : Bool, PyData.eqv (.list [.bool a, .bool b, .bool c, .bool d]) (.list [.bool true, .bool false, .bool false, .bool false]) = (a && !b && !c && !d) := by decide
abbrev s_l_told : Stmt := (top 19)
theorem sc_l_told : FnScope ["_law_way", "_law_value", "e", "_law_kinds"] ["_law_way", "_law_value"] (defScope s_l_told) := ⟨rfl, rfl, rfl, by decide +kernel, rfl, by decide +kernel, by decide +kernel⟩

theorem ok_told {f : Addr} {fd : FuncData} (F : FunS K "_law_told" s_l_told f fd) (b_ValueError : mg "ValueError" = none) (b_isinstance : mg "isinstance" = none) (ex : ExF K mg) (c_stroke_of : CalX P w K mg base 1 "stroke_of" (sp_strokeof K)) (c_number_of : CalX P w K mg base 2 "number_of" (sp_number K)) (c_need_stroke : CalX P w K mg base 1 "need_stroke" (sp_need K)) : FnOk P w K mg base CX0 4 f fd ["_law_way", "_law_value"] (sp_told K) := by
  refine F.ok sc_l_told (fun vs H Q E h => ?_) (fun cdv A outer s H vs Q E hr h => ?_)
  · rcases h with ⟨i, rfl, _⟩ | ⟨t, rfl, _⟩ | ⟨t, rfl, _⟩ <;> rfl
  refine ⟨_, PSs.nox (pss_one (ps_try_as (i := 2) (c := .ref (He.ga K "ChordError")) (Wout := fun _ _ _ _ => False) rfl rfl sc_l_told.nd rfl rfl ⟨rfl, by decide, .inl ex.g_ChordError⟩ takes0
   (fun W pn xe tk _ => (pss_cons (ps_if (pt_cmpR op_eq (pv 0) pe_int (nomark _))
    (pss_one (ps_ret (pe_cs c_stroke_of hr (by first | decide | omega) (by rfl) tk (pa_cons (pv 1) pa_nil))))
    pss_nil)
  (pss_cons (ps_if (pt_cmpR op_eq (pv 0) pe_int (nomark _))
    (pss_one (ps_ret (pe_cs c_number_of hr (by first | decide | omega) (by rfl) tk (pa_cons (pv 1) pa_nil))))
    pss_nil)
  (pss_one (ps_ret (pe_cs c_need_stroke hr (by first | decide | omega) (by rfl) tk (pa_cons (pv 1) pa_nil)))))))
   (fun a oe cls d pn hz hf => pss_and (q := cls = .ref (He.ga K "BadStroke") ∧ d = none) (fun hcd => (pss_cons (ps_set (i := 3) sc_l_told.nd rfl (.inl rfl) (pe_lst (pa_cons (pe_callB (isE_K (K := K) rfl ex.c_BadStroke (zc_of hcd hz) hf) (by rfl) b_isinstance (by decide +kernel) (pa_cons (pv 2) (pa_cons (pe_glob (v := .ref (He.ga K "BadStroke")) (by rfl) ex.g_BadStroke rfl) pa_nil))) (pa_cons (pe_callB (isE_K (K := K) rfl ex.c_BadStroke (zc_of hcd hz) hf) (by rfl) b_isinstance (by decide +kernel) (pa_cons (pv 2) (pa_cons (pe_glob (v := .ref (He.ga K "BadEntry")) (by rfl) ex.g_BadEntry rfl) pa_nil))) (pa_cons (pe_callB (isE_K (K := K) rfl ex.c_BadStroke (zc_of hcd hz) hf) (by rfl) b_isinstance (by decide +kernel) (pa_cons (pv 2) (pa_cons (pe_glob (v := .ref (He.ga K "BadBook")) (by rfl) ex.g_BadBook rfl) pa_nil))) (pa_cons (pe_callB (isE_K (K := K) rfl ex.c_BadStroke (zc_of hcd hz) hf) (by rfl) b_isinstance (by decide +kernel) (pa_cons (pv 2) (pa_cons (pe_glob (v := .ref (He.ga K "NoRow")) (by rfl) ex.g_NoRow rfl) pa_nil))) pa_nil))))))
  (pss_one (ps_ret (pe_tup (pa_cons pe_str (pa_cons (pe_and (pe_cmpR (deepK (K := K) (op_eqD hr.units) rfl) (pv 3) (pe_lst (pa_cons pe_bl (pa_cons pe_bl (pa_cons pe_bl (pa_cons pe_bl pa_nil))))) (nomark _)) (pe_one (pe_callB (isE_K (K := K) rfl ex.c_BadStroke (zc_of hcd hz) hf) (by rfl) b_isinstance (by decide +kernel) (pa_cons (pv 2) (pa_cons (pe_bltn (v := .ty "ValueError") (by rfl) b_ValueError (by decide +kernel) rfl) pa_nil))))) pa_nil)))))))))), ?_⟩
  rcases h with ⟨i, rfl, k⟩ | ⟨t, rfl, ha, hl, k⟩ | ⟨t, rfl, ha, hl, k⟩
  · simp only [tSeq, tAsg, tAnd, tOr, tNot, tTest, tB, tOp, tUn, tCB, tCons, tNil, tVar, tC, gName, rI0, rI, rU, rEq, rNe, rIxS, rIxL, rIxT, tRet, tRetN, tTup, tLst, tSl, tPart, tNoPart, rSlS, tIf, tIfS, tNext, tDrop, tCall, tBM, tBM0, tAndV, tOrV, tNotV, tM0, tM1, gSub, rSetL, sFld, gCons_eq, gNil_eq, tCallS_eq, tDGet, sDPut, tMeth, tMake, tFld, tChain, tIsN, tNotN,
  List.set_cons_zero, List.set_cons_succ, exists_eq_left', exists_eq_left, exists_eq, V.int.injEq, V.str.injEq, V.bl.injEq, V.ref.injEq, List.cons.injEq, and_true, true_and, List.getElem?_cons_zero, List.getElem?_cons_succ, Option.some.injEq, List.append_nil, exists_and_left, cxOf_K, false_and, and_false, exists_false, false_or, or_false, exists_eq', exists_const, sg_eq, S_eq, S_toList, S_ne, tFor_eq, tLc_eq, iList_eq, iTup_eq, iRng1_eq, iStr_eq, decide_eq_true_eq, Bool.not_eq_true', decide_eq_false_iff_not, if_true, if_false, Bool.false_eq_true, reduceCtorEq, Bool.true_eq_false, decide_true, decide_false, lit_98_97_100, start2_4]
    refine ⟨rfl, i, rfl, fun ok H1 s1 => ?_, fun bad => ?_⟩
    · rw [if_pos ok] at k
      exact k _ H1 s1 (.str _)
    · rw [if_neg bad] at k
      refine ⟨true, ex.m_ChordError, fun _ a0 _ => ⟨⟨rfl, rfl⟩, ?_⟩, fun q => nomatch q⟩
      refine ⟨_, rfl, _, _, _, rfl, fun u h => h, ex.q_BadStroke, _, rfl, _, _, _, rfl, fun u h => h, ex.q_BadEntry, _, rfl, _, _, _, rfl, fun u h => h, ex.q_BadBook, _, rfl, _, _, _, rfl, fun u h => h, ex.q_NoRow, (size_le (by simp only [List.length_cons, List.length_nil]; decide)), ?_⟩
      (intro p np; generalize hqp : upd H p _ = H1; obtain ⟨e1, f1⟩ := al_ np hqp; clear hqp)
      refine ⟨_, rfl, (size_le (by simp only [List.length_cons, List.length_nil]; decide)), ?_⟩
      (intro p2 np2; generalize hqp2 : upd H1 p2 _ = H2; obtain ⟨e2, f2⟩ := al_ np2 hqp2; clear hqp2)
      refine ⟨_, _, .lst (sq_of (e2 _ _ f1)) (.cons (.bl _) (.cons (.bl _) (.cons (.bl _) (.cons (.bl _) .nil)))), .lst (sq_of f2) (.cons (.bl _) (.cons (.bl _) (.cons (.bl _) (.cons (.bl _) .nil)))), rfl, rfl, true, congrArg V.bl (eqv_bools _ _ _ _), ?_⟩
      rw [if_pos rfl]
      refine ⟨_, rfl, _, _, _, rfl, fun u h => h, ex.q_ValueError, (size_le (by simp only [List.length_cons, List.length_nil]; decide)), ?_⟩
      (intro p3 np3; generalize hqp3 : upd H2 p3 _ = H3; obtain ⟨e3, f3⟩ := al_ np3 hqp3; clear hqp3)
      exact k _ H3 ((e1.trans e2).trans e3) (.tup (st_of f3) (.cons (.str _) (.cons (.bl true) .nil)))
  · simp only [tSeq, tAsg, tAnd, tOr, tNot, tTest, tB, tOp, tUn, tCB, tCons, tNil, tVar, tC, gName, rI0, rI, rU, rEq, rNe, rIxS, rIxL, rIxT, tRet, tRetN, tTup, tLst, tSl, tPart, tNoPart, rSlS, tIf, tIfS, tNext, tDrop, tCall, tBM, tBM0, tAndV, tOrV, tNotV, tM0, tM1, gSub, rSetL, sFld, gCons_eq, gNil_eq, tCallS_eq, tDGet, sDPut, tMeth, tMake, tFld, tChain, tIsN, tNotN,
  List.set_cons_zero, List.set_cons_succ, exists_eq_left', exists_eq_left, exists_eq, V.int.injEq, V.str.injEq, V.bl.injEq, V.ref.injEq, List.cons.injEq, and_true, true_and, List.getElem?_cons_zero, List.getElem?_cons_succ, Option.some.injEq, List.append_nil, exists_and_left, cxOf_K, false_and, and_false, exists_false, false_or, or_false, exists_eq', exists_const, sg_eq, S_eq, S_toList, S_ne, tFor_eq, tLc_eq, iList_eq, iTup_eq, iRng1_eq, iStr_eq, decide_eq_true_eq, Bool.not_eq_true', decide_eq_false_iff_not, if_true, if_false, Bool.false_eq_true, reduceCtorEq, Bool.true_eq_false, decide_true, decide_false, lit_98_97_100, start2_4]
    rw [if_neg (by decide)]
    refine ⟨rfl, rfl, t, rfl, ha, hl, fun ok H1 s1 => ?_, fun bad => ?_⟩
    · rw [if_pos ok] at k
      exact k _ H1 s1 (.int _)
    · rw [if_neg (by rw [bad]; decide)] at k
      refine ⟨true, ex.m_ChordError, fun _ a0 _ => ⟨⟨rfl, rfl⟩, ?_⟩, fun q => nomatch q⟩
      refine ⟨_, rfl, _, _, _, rfl, fun u h => h, ex.q_BadStroke, _, rfl, _, _, _, rfl, fun u h => h, ex.q_BadEntry, _, rfl, _, _, _, rfl, fun u h => h, ex.q_BadBook, _, rfl, _, _, _, rfl, fun u h => h, ex.q_NoRow, (size_le (by simp only [List.length_cons, List.length_nil]; decide)), ?_⟩
      (intro p np; generalize hqp : upd H p _ = H1; obtain ⟨e1, f1⟩ := al_ np hqp; clear hqp)
      refine ⟨_, rfl, (size_le (by simp only [List.length_cons, List.length_nil]; decide)), ?_⟩
      (intro p2 np2; generalize hqp2 : upd H1 p2 _ = H2; obtain ⟨e2, f2⟩ := al_ np2 hqp2; clear hqp2)
      refine ⟨_, _, .lst (sq_of (e2 _ _ f1)) (.cons (.bl _) (.cons (.bl _) (.cons (.bl _) (.cons (.bl _) .nil)))), .lst (sq_of f2) (.cons (.bl _) (.cons (.bl _) (.cons (.bl _) (.cons (.bl _) .nil)))), rfl, rfl, true, congrArg V.bl (eqv_bools _ _ _ _), ?_⟩
      rw [if_pos rfl]
      refine ⟨_, rfl, _, _, _, rfl, fun u h => h, ex.q_ValueError, (size_le (by simp only [List.length_cons, List.length_nil]; decide)), ?_⟩
      (intro p3 np3; generalize hqp3 : upd H2 p3 _ = H3; obtain ⟨e3, f3⟩ := al_ np3 hqp3; clear hqp3)
      exact k _ H3 ((e1.trans e2).trans e3) (.tup (st_of f3) (.cons (.str _) (.cons (.bl true) .nil)))
  · simp only [tSeq, tAsg, tAnd, tOr, tNot, tTest, tB, tOp, tUn, tCB, tCons, tNil, tVar, tC, gName, rI0, rI, rU, rEq, rNe, rIxS, rIxL, rIxT, tRet, tRetN, tTup, tLst, tSl, tPart, tNoPart, rSlS, tIf, tIfS, tNext, tDrop, tCall, tBM, tBM0, tAndV, tOrV, tNotV, tM0, tM1, gSub, rSetL, sFld, gCons_eq, gNil_eq, tCallS_eq, tDGet, sDPut, tMeth, tMake, tFld, tChain, tIsN, tNotN,
  List.set_cons_zero, List.set_cons_succ, exists_eq_left', exists_eq_left, exists_eq, V.int.injEq, V.str.injEq, V.bl.injEq, V.ref.injEq, List.cons.injEq, and_true, true_and, List.getElem?_cons_zero, List.getElem?_cons_succ, Option.some.injEq, List.append_nil, exists_and_left, cxOf_K, false_and, and_false, exists_false, false_or, or_false, exists_eq', exists_const, sg_eq, S_eq, S_toList, S_ne, tFor_eq, tLc_eq, iList_eq, iTup_eq, iRng1_eq, iStr_eq, decide_eq_true_eq, Bool.not_eq_true', decide_eq_false_iff_not, if_true, if_false, Bool.false_eq_true, reduceCtorEq, Bool.true_eq_false, decide_true, decide_false, lit_98_97_100, start2_4]
    rw [if_neg (by decide), if_neg (by decide)]
    refine ⟨rfl, rfl, t, rfl, ha, by omega, fun ok => ?_, fun bad => ?_⟩
    · rw [if_pos ok] at k
      exact k _ H (Same.refl _) .non
    · rw [if_neg (by rw [bad]; decide)] at k
      refine ⟨true, ex.m_ChordError, fun _ a0 _ => ⟨⟨rfl, rfl⟩, ?_⟩, fun q => nomatch q⟩
      refine ⟨_, rfl, _, _, _, rfl, fun u h => h, ex.q_BadStroke, _, rfl, _, _, _, rfl, fun u h => h, ex.q_BadEntry, _, rfl, _, _, _, rfl, fun u h => h, ex.q_BadBook, _, rfl, _, _, _, rfl, fun u h => h, ex.q_NoRow, (size_le (by simp only [List.length_cons, List.length_nil]; decide)), ?_⟩
      (intro p np; generalize hqp : upd H p _ = H1; obtain ⟨e1, f1⟩ := al_ np hqp; clear hqp)
      refine ⟨_, rfl, (size_le (by simp only [List.length_cons, List.length_nil]; decide)), ?_⟩
      (intro p2 np2; generalize hqp2 : upd H1 p2 _ = H2; obtain ⟨e2, f2⟩ := al_ np2 hqp2; clear hqp2)
      refine ⟨_, _, .lst (sq_of (e2 _ _ f1)) (.cons (.bl _) (.cons (.bl _) (.cons (.bl _) (.cons (.bl _) .nil)))), .lst (sq_of f2) (.cons (.bl _) (.cons (.bl _) (.cons (.bl _) (.cons (.bl _) .nil)))), rfl, rfl, true, congrArg V.bl (eqv_bools _ _ _ _), ?_⟩
      rw [if_pos rfl]
      refine ⟨_, rfl, _, _, _, rfl, fun u h => h, ex.q_ValueError, (size_le (by simp only [List.length_cons, List.length_nil]; decide)), ?_⟩
      (intro p3 np3; generalize hqp3 : upd H2 p3 _ = H3; obtain ⟨e3, f3⟩ := al_ np3 hqp3; clear hqp3)
      exact k _ H3 ((e1.trans e2).trans e3) (.tup (st_of f3) (.cons (.str _) (.cons (.bl true) .nil)))
end
/-! ### the law of strokes -/
abbrev s_law : Stmt := (top 20)
theorem sc_law : FnScope ["_law_script", "_law_box", "_law_number", "_law_due", "_law_some", "_law_text", "_law_places", "_law_good", "_law_whole", "_law_sign", "_law_k"] ["_law_script"] (defScope s_law) := ⟨rfl, rfl, rfl, by decide +kernel, rfl, by decide +kernel, by decide +kernel⟩

def sp_law (K : PySem.W.Frag) : Sp := fun vs H Q _ => ∃ (a : Addr) (ns : List Int), vs = [.ref a] ∧ SqL K H a (ns.map V.int) ∧ ns.length ≤ 63 ∧ ∀ H', Q (.bl true) H'
theorem inV_I (x : Int) (ns : List Int) : inV (.int x) (ns.map V.int) = ns.contains x := by
  induction ns with
  | nil => rfl
  | cons t r ih =>
    have e : inV (.int x) ((t :: r).map V.int) = (eqV (.int t) (.int x) || inV (.int x) (r.map V.int)) := rfl
    rw [e, ih, List.contains_cons]
    congr 1
    have : eqV (.int t) (.int x) = (t == x) := rfl
    rw [this, Bool.eq_iff_iff, beq_iff_eq, beq_iff_eq]
    exact eq_comm
theorem eqvA_ints : ∀ a b : List Int, PyData.eqvAll (a.map PyData.int) (b.map PyData.int) = decide (a = b)
  | [], [] => by simp [PyData.eqvAll]
  | [], _ :: _ => by simp [PyData.eqvAll]
  | _ :: _, [] => by simp [PyData.eqvAll]
  | x :: r, y :: t => by
    simp only [List.map_cons, PyData.eqvAll, PyData.eqv, eqvA_ints r t]
    rw [Bool.eq_iff_iff]
    simp
theorem eqv_ints (a b : List Int) : PyData.eqv (.list (a.map PyData.int)) (.list (b.map PyData.int)) = decide (a = b) := by
  simp only [PyData.eqv, eqvA_ints]
theorem perm_sorted : ∀ {a b : List Int}, a.Perm b → a.Pairwise (· ≤ ·) → b.Pairwise (· ≤ ·) → a = b
  | [], b, h, _, _ => (List.nil_perm.mp h).symm
  | x :: a, [], h, _, _ => absurd h.length_eq (by simp)
  | x :: a, y :: b, h, ha, hb => by
    rw [List.pairwise_cons] at ha hb
    have h1 : x ∈ y :: b := h.subset List.mem_cons_self
    have h2 : y ∈ x :: a := h.symm.subset List.mem_cons_self
    have e : x = y := by
      rcases List.mem_cons.mp h1 with e | e
      · exact e
      · rcases List.mem_cons.mp h2 with e2 | e2
        · exact e2.symm
        · exact Int.le_antisymm (ha.1 y e2) (hb.1 x e)
    subst e
    rw [perm_sorted (List.Perm.cons_inv h) ha.2 hb.2]
section
variable {P : Program} {w : World} {K : PySem.W.Frag} {mg : Str → Option Value} {base : Heap}
theorem ok_law {f : Addr} {fd : FuncData} (F : FunS K "law" s_law f fd) (b_len : mg "len" = none) (b_range : mg "range" = none) (b_set : mg "set" = none) (b_sorted : mg "sorted" = none) (b_sum : mg "sum" = none) (c_l_begun : Cal P w K mg base CX0 1 "_law_begun" (sp_begun K)) (c_l_take : Cal P w K mg base CX0 1 "_law_take" sp_take) (c_l_alike : Cal P w K mg base CX0 6 "_law_alike" (sp_alike K 6)) (c_l_told : Cal P w K mg base CX0 4 "_law_told" (sp_told K)) : FnOk P w K mg base CX0 9 f fd ["_law_script"] (sp_law K) := by
  refine F.ok sc_law (fun vs H Q E h => ?_) (fun cdv A outer s H vs Q E hr h => ?_)
  · obtain ⟨a, ns, rfl, _⟩ := h
    rfl
  obtain ⟨a, ns, rfl, hS, hn, k⟩ := h
  refine ⟨_, PSs.nox (pss_cons (ps_set (i := 1) sc_law.nd rfl (.inr rfl) (pe_c c_l_begun hr (by first | decide | omega) (by rfl) (pa_cons (pv 0) pa_nil)))
  (pss_cons (ps_set (i := 2) sc_law.nd rfl (.inr rfl) (pe_c c_l_take hr (by first | decide | omega) (by rfl) (pa_cons (pv 1) (pa_cons pe_int pa_nil))))
  (pss_cons (ps_set (i := 3) sc_law.nd rfl (.inl rfl) (pe_tup (pa_cons pe_str (pa_cons pe_bl pa_nil))))
  (pss_cons (ps_if (PW.pt (pw_and (pt_cmpR op_lt pe_int (pv 2) (nomark _)) (pw_and1 (pt_cmpR op_lt (pv 2) pe_int (nomark _)))))
    (pss_cons (ps_setLc (i := 4) (own := [("_law_k", 10)]) rfl sc_law.nd rfl rfl (sw_true rfl rfl rfl (by decide +kernel)) (pi_range1 (by rfl) b_range (pa_cons pe_int pa_nil)) (blkOk_by (N := ["_law_script", "_law_box", "_law_number", "_law_due", "_law_some", "_law_text", "_law_places", "_law_good", "_law_whole", "_law_sign", "_law_k"]) (sc := defScope s_law) (own := [("_law_k", 10)]) (by decide +kernel)) (fun _ _ _ _ _ => (pg_name (i := 10) sc_law.nd rfl (.inl rfl))) (fun _ _ _ _ _ => (pts_one (pt_cmpR op_eq (pe_op op_mod (pe_op op_fdivN (pv 2) (pe_ix (ixK_list (K := K) rfl) (pe_lst (pa_cons pe_int (pa_cons pe_int (pa_cons pe_int (pa_cons pe_int (pa_cons pe_int (pa_cons pe_int (pa_cons pe_int (pa_cons pe_int (pa_cons pe_int (pa_cons pe_int pa_nil))))))))))) (pv 10) (fun _ _ => rfl))) pe_int) pe_int (nomark _)))) (fun _ _ _ _ _ => (pv 10)))
  (pss_cons (ps_set (i := 3) sc_law.nd rfl (.inl rfl) (pe_join pe_str (pe_lc (own := [("_law_k", 10)]) rfl sc_law.nd (pi_list (pv 4)) (blkOk_by (N := ["_law_script", "_law_box", "_law_number", "_law_due", "_law_some", "_law_text", "_law_places", "_law_good", "_law_whole", "_law_sign", "_law_k"]) (sc := defScope s_law) (own := [("_law_k", 10)]) (by decide +kernel)) (fun _ _ _ _ _ => (pg_name (i := 10) sc_law.nd rfl (.inl rfl))) (fun _ _ _ _ _ => pts_nil) (fun _ _ _ _ _ => (pe_ix ix_str pe_str (pv 10) (fun _ _ => rfl))))))
  (pss_one (ps_if (PW.pt (pw_or (pt_not (pt_val (pe_c c_l_alike hr (by first | decide | omega) (by rfl) (pa_cons (pe_c c_l_told hr (by first | decide | omega) (by rfl) (pa_cons pe_int (pa_cons (pv 3) pa_nil))) (pa_cons (pv 2) pa_nil))))) (pw_or1 (pt_cmpR op_notN (pe_c c_l_told hr (by first | decide | omega) (by rfl) (pa_cons pe_int (pa_cons (pv 3) pa_nil))) pe_non (nomark _)))))
    (pss_one (ps_ret pe_bl))
    pss_nil))))
    pss_nil)
  (pss_cons (ps_if (PW.pt (pw_or (pt_not (pt_val (pe_c c_l_alike hr (by first | decide | omega) (by rfl) (pa_cons (pe_c c_l_told hr (by first | decide | omega) (by rfl) (pa_cons pe_int (pa_cons (pv 2) pa_nil))) (pa_cons (pv 3) pa_nil))))) (pw_or1 (pt_not (pt_val (pe_c c_l_alike hr (by first | decide | omega) (by rfl) (pa_cons (pe_c c_l_told hr (by first | decide | omega) (by rfl) (pa_cons pe_int (pa_cons (pe_op op_sub pe_int (pv 2)) pa_nil))) (pa_cons (pe_tup (pa_cons pe_str (pa_cons pe_bl pa_nil))) pa_nil))))))))
    (pss_one (ps_ret pe_bl))
    pss_nil)
  (pss_cons (ps_set (i := 5) sc_law.nd rfl (.inl rfl) (pe_join pe_str (pe_lc (own := [("_law_k", 10)]) rfl sc_law.nd (pi_range1 (by rfl) b_range (pa_cons (pe_c c_l_take hr (by first | decide | omega) (by rfl) (pa_cons (pv 1) (pa_cons pe_int pa_nil))) pa_nil)) (blkOk_by (N := ["_law_script", "_law_box", "_law_number", "_law_due", "_law_some", "_law_text", "_law_places", "_law_good", "_law_whole", "_law_sign", "_law_k"]) (sc := defScope s_law) (own := [("_law_k", 10)]) (by decide +kernel)) (fun _ _ _ _ _ => (pg_name (i := 10) sc_law.nd rfl (.inl rfl))) (fun _ _ _ _ _ => pts_nil) (fun _ _ _ _ _ => (pe_ix ix_str pe_str (pe_c c_l_take hr (by first | decide | omega) (by rfl) (pa_cons (pv 1) (pa_cons pe_int pa_nil))) (fun _ _ => rfl))))))
  (pss_cons (ps_setLc (i := 6) (own := [("_law_sign", 9)]) rfl sc_law.nd rfl rfl (sw_true rfl rfl rfl (by decide +kernel)) (pi_str (pv 5)) (blkOk_by (N := ["_law_script", "_law_box", "_law_number", "_law_due", "_law_some", "_law_text", "_law_places", "_law_good", "_law_whole", "_law_sign", "_law_k"]) (sc := defScope s_law) (own := [("_law_sign", 9)]) (by decide +kernel)) (fun _ _ _ _ _ => (pg_name (i := 9) sc_law.nd rfl (.inl rfl))) (fun _ _ _ _ _ => pts_nil) (fun _ _ _ _ _ => (pe_m1 PySem.F.slot_str_find PySem.F.type_str_find mt_find pe_str (pv 9))))
  (pss_cons (ps_set (i := 7) sc_law.nd rfl (.inl rfl) (pe_and (pe_cmpR op_ne (pv 5) pe_str (nomark _)) (pe_and (pe_cmpR op_notIn_seq (pe_un un_neg pe_int) (pv 6) (by rfl)) (pe_and (pe_cmpR (op_eqD hr.units) (pv 6) (pe_callB cr_sorted (by rfl) b_sorted (by decide +kernel) (pa_cons (pv 6) pa_nil)) (nomark _)) (pe_one (pe_cmpR op_eq (pe_lenSetG (by rfl) b_len (by rfl) b_set (pv 6)) (pe_callB call_len_seq (by rfl) b_len PySem.boot_len (pa_cons (pv 6) pa_nil)) (nomark _)))))))
  (pss_cons (ps_if (pt_val (pv 7))
    (pss_cons (ps_set (i := 8) sc_law.nd rfl (.inl rfl) (pe_callB (cr_sum rfl) (by rfl) b_sum (by decide +kernel) (pa_cons (pe_lc (own := [("_law_k", 10)]) rfl sc_law.nd (pi_list (pv 6)) (blkOk_by (N := ["_law_script", "_law_box", "_law_number", "_law_due", "_law_some", "_law_text", "_law_places", "_law_good", "_law_whole", "_law_sign", "_law_k"]) (sc := defScope s_law) (own := [("_law_k", 10)]) (by decide +kernel)) (fun _ _ _ _ _ => (pg_name (i := 10) sc_law.nd rfl (.inl rfl))) (fun _ _ _ _ _ => pts_nil) (fun _ _ _ _ _ => (pe_ix (ixK_list (K := K) rfl) (pe_lst (pa_cons pe_int (pa_cons pe_int (pa_cons pe_int (pa_cons pe_int (pa_cons pe_int (pa_cons pe_int (pa_cons pe_int (pa_cons pe_int (pa_cons pe_int (pa_cons pe_int pa_nil))))))))))) (pv 10) (fun _ _ => rfl)))) pa_nil)))
  (pss_one (ps_ret (pe_and (pe_cmpR op_isN (pe_c c_l_told hr (by first | decide | omega) (by rfl) (pa_cons pe_int (pa_cons (pv 5) pa_nil))) pe_non (nomark _)) (pe_one (pe_c c_l_alike hr (by first | decide | omega) (by rfl) (pa_cons (pe_c c_l_told hr (by first | decide | omega) (by rfl) (pa_cons pe_int (pa_cons (pv 5) pa_nil))) (pa_cons (pv 8) pa_nil))))))))
    pss_nil)
  (pss_one (ps_ret (pe_and (pe_cmpR (op_eqD hr.units) (pe_c c_l_told hr (by first | decide | omega) (by rfl) (pa_cons pe_int (pa_cons (pv 5) pa_nil))) (pe_tup (pa_cons pe_str (pa_cons pe_bl pa_nil))) (nomark _)) (pe_one (pe_cmpR (op_eqD hr.units) (pe_c c_l_told hr (by first | decide | omega) (by rfl) (pa_cons pe_int (pa_cons (pv 5) pa_nil))) (pe_tup (pa_cons pe_str (pa_cons pe_bl pa_nil))) (nomark _))))))))))))))), ?_⟩
  simp only [tSeq, tAsg, tAnd, tOr, tNot, tTest, tB, tOp, tUn, tCB, tCons, tNil, tVar, tC, gName, rI0, rI, rU, rEq, rNe, rIxS, rIxL, rIxT, tRet, tRetN, tTup, tLst, tSl, tPart, tNoPart, rSlS, tIf, tNext, tDrop, tCall, tBM, tBM0, tAndV, tOrV, tNotV, tM0, tM1, gSub, rSetL, sFld, gCons_eq, gNil_eq, tCallS_eq, tDGet, sDPut, tMeth, tMake, tFld, tChain, tIsN, tNotN,
  List.set_cons_zero, List.set_cons_succ, exists_eq_left', exists_eq_left, exists_eq, V.int.injEq, V.str.injEq, V.bl.injEq, V.ref.injEq, List.cons.injEq, and_true, true_and, List.getElem?_cons_zero, List.getElem?_cons_succ, Option.some.injEq, List.append_nil, exists_and_left, cxOf_K, false_and, and_false, exists_false, false_or, or_false, exists_eq', exists_const, sg_eq, S_eq, S_toList, S_ne, tFor_eq, tLc_eq, iList_eq, iTup_eq, iRng1_eq, iStr_eq, decide_eq_true_eq, Bool.not_eq_true', decide_eq_false_iff_not, if_true, if_false, Bool.false_eq_true, reduceCtorEq, Bool.true_eq_false, decide_true, decide_false, lit_98_97_100, lit_, lit_97_98_99_100_101_102_103_104_105_106_107_65_47_32_49, lit_97_98_99_100_101_102_103_104_105_106, start1_11]
  refine ⟨a, ns, rfl, hS, hn, fun b G H1 e1 B1 => ?_⟩
  refine take_ B1 (by decide) (by decide) fun n H2 hn2 B2 => ⟨(size_le (by simp only [List.length_cons, List.length_nil]; decide)), ?_⟩
  (intro p1 np1; generalize hqp1 : upd _ p1 _ = H3; obtain ⟨G3, gp1, e3, B3, f3⟩ := alB_ B2 np1 hqp1; clear hqp1 np1)
  try simp only [tSeq, tAsg, tAnd, tOr, tNot, tTest, tB, tOp, tUn, tCB, tCons, tNil, tVar, tC, gName, rI0, rI, rU, rEq, rNe, rIxS, rIxL, rIxT, tRet, tRetN, tTup, tLst, tSl, tPart, tNoPart, rSlS, tIf, tNext, tDrop, tCall, tBM, tBM0, tAndV, tOrV, tNotV, tM0, tM1, gSub, rSetL, sFld, gCons_eq, gNil_eq, tCallS_eq, tDGet, sDPut, tMeth, tMake, tFld, tChain, tIsN, tNotN,
  List.set_cons_zero, List.set_cons_succ, exists_eq_left', exists_eq_left, exists_eq, V.int.injEq, V.str.injEq, V.bl.injEq, V.ref.injEq, List.cons.injEq, and_true, true_and, List.getElem?_cons_zero, List.getElem?_cons_succ, Option.some.injEq, List.append_nil, exists_and_left, cxOf_K, false_and, and_false, exists_false, false_or, or_false, exists_eq', exists_const, sg_eq, S_eq, S_toList, S_ne, tFor_eq, tLc_eq, iList_eq, iTup_eq, iRng1_eq, iStr_eq, decide_eq_true_eq, Bool.not_eq_true', decide_eq_false_iff_not, if_true, if_false, Bool.false_eq_true, reduceCtorEq, Bool.true_eq_false, decide_true, decide_false]
  -- the number's stroke
  refine if_fin (fun σ' H' => ∃ (G4 : Hp) (v : V) (y : Option V), σ' = [some (.ref a), some (.ref b), some (.int (n : Int)), some v, y, none, none, none, none, none, none] ∧ Bx b G4 H' ∧ Dp K G4 v (if 1 ≤ (n : Int) ∧ (n : Int) < 1024 then .str (S (strokeT n)) else badD)) ?_ ?_
  rotate_left
  · intro nx fin
    simp only [tSeq, tAsg, tAnd, tOr, tNot, tTest, tB, tOp, tUn, tCB, tCons, tNil, tVar, tC, gName, rI0, rI, rU, rEq, rNe, rIxS, rIxL, rIxT, tRet, tRetN, tTup, tLst, tSl, tPart, tNoPart, rSlS, tIf, tNext, tDrop, tCall, tBM, tBM0, tAndV, tOrV, tNotV, tM0, tM1, gSub, rSetL, sFld, gCons_eq, gNil_eq, tCallS_eq, tDGet, sDPut, tMeth, tMake, tFld, tChain, tIsN, tNotN,
  List.set_cons_zero, List.set_cons_succ, exists_eq_left', exists_eq_left, exists_eq, V.int.injEq, V.str.injEq, V.bl.injEq, V.ref.injEq, List.cons.injEq, and_true, true_and, List.getElem?_cons_zero, List.getElem?_cons_succ, Option.some.injEq, List.append_nil, exists_and_left, cxOf_K, false_and, and_false, exists_false, false_or, or_false, exists_eq', exists_const, sg_eq, S_eq, S_toList, S_ne, tFor_eq, tLc_eq, iList_eq, iTup_eq, iRng1_eq, iStr_eq, decide_eq_true_eq, Bool.not_eq_true', decide_eq_false_iff_not, if_true, if_false, Bool.false_eq_true, reduceCtorEq, Bool.true_eq_false, decide_true, decide_false]
    refine if_pure (decide (1 ≤ (n : Int) ∧ (n : Int) < 1024)) (fun R rr => ?_) (fun e => ?_) (fun e => ?_)
    · simp only [tSeq, tAsg, tAnd, tOr, tNot, tTest, tB, tOp, tUn, tCB, tCons, tNil, tVar, tC, gName, rI0, rI, rU, rEq, rNe, rIxS, rIxL, rIxT, tRet, tRetN, tTup, tLst, tSl, tPart, tNoPart, rSlS, tIf, tIfS, tNext, tDrop, tCall, tBM, tBM0, tAndV, tOrV, tNotV, tM0, tM1, gSub, rSetL, sFld, gCons_eq, gNil_eq, tCallS_eq, tDGet, sDPut, tMeth, tMake, tFld, tChain, tIsN, tNotN,
  List.set_cons_zero, List.set_cons_succ, exists_eq_left', exists_eq_left, exists_eq, V.int.injEq, V.str.injEq, V.bl.injEq, V.ref.injEq, List.cons.injEq, and_true, true_and, List.getElem?_cons_zero, List.getElem?_cons_succ, Option.some.injEq, List.append_nil, exists_and_left, cxOf_K, false_and, and_false, exists_false, false_or, or_false, exists_eq', exists_const, sg_eq, S_eq, S_toList, S_ne, tFor_eq, tLc_eq, iList_eq, iTup_eq, iRng1_eq, iStr_eq, decide_eq_true_eq, Bool.not_eq_true', decide_eq_false_iff_not, if_true, if_false, Bool.false_eq_true, reduceCtorEq, Bool.true_eq_false, decide_true, decide_false]
      by_cases h0 : (0 : Int) < n
      · rw [if_pos h0]
        have e9 : decide (1 ≤ (n : Int) ∧ (n : Int) < 1024) = decide ((n : Int) < 1024) := by
          rw [Bool.eq_iff_iff]
          simp
          omega
        rw [e9] at rr
        exact rr
      · rw [if_neg h0]
        have e9 : decide (1 ≤ (n : Int) ∧ (n : Int) < 1024) = false := decide_eq_false (by omega)
        rw [e9] at rr
        exact rr
    · have hn3 := of_decide_eq_true e
      simp only [tSeq, tAsg, tAnd, tOr, tNot, tTest, tB, tOp, tUn, tCB, tCons, tNil, tVar, tC, gName, rI0, rI, rU, rEq, rNe, rIxS, rIxL, rIxT, tRet, tRetN, tTup, tLst, tSl, tPart, tNoPart, rSlS, tIf, tNext, tDrop, tCall, tBM, tBM0, tAndV, tOrV, tNotV, tM0, tM1, gSub, rSetL, sFld, gCons_eq, gNil_eq, tCallS_eq, tDGet, sDPut, tMeth, tMake, tFld, tChain, tIsN, tNotN,
  List.set_cons_zero, List.set_cons_succ, exists_eq_left', exists_eq_left, exists_eq, V.int.injEq, V.str.injEq, V.bl.injEq, V.ref.injEq, List.cons.injEq, and_true, true_and, List.getElem?_cons_zero, List.getElem?_cons_succ, Option.some.injEq, List.append_nil, exists_and_left, cxOf_K, false_and, and_false, exists_false, false_or, or_false, exists_eq', exists_const, sg_eq, S_eq, S_toList, S_ne, tFor_eq, tLc_eq, iList_eq, iTup_eq, iRng1_eq, iStr_eq, decide_eq_true_eq, Bool.not_eq_true', decide_eq_false_iff_not, if_true, if_false, Bool.false_eq_true, reduceCtorEq, Bool.true_eq_false, decide_true, decide_false]
      refine ⟨by decide, by decide, fun L hL => ?_⟩
      refine comp_range (n := 10) (fun i acc H4 => acc = (((List.range i).filter fun k => n / 2 ^ k % 2 == 1).map fun k : Nat => V.int (k : Int)) ∧ Same H3 H4) (by decide) ⟨rfl, same_new hL⟩ upd_same ?_ ?_
      · rintro i acc H4 hi hA hn4 hi2 ⟨rfl, s4⟩
        simp only [wipe, List.map_cons, List.map_nil, List.set_cons_succ, List.set_cons_zero, tSeq, tAsg, tAnd, tOr, tNot, tTest, tB, tOp, tUn, tCB, tCons, tNil, tVar, tC, gName, rI0, rI, rU, rEq, rNe, rIxS, rIxL, rIxT, tRet, tRetN, tTup, tLst, tSl, tPart, tNoPart, rSlS, tIf, tIfS, tNext, tDrop, tCall, tBM, tBM0, tAndV, tOrV, tNotV, tM0, tM1, gSub, rSetL, sFld, gCons_eq, gNil_eq, tCallS_eq, tDGet, sDPut, tMeth, tMake, tFld, tChain, tIsN, tNotN,
  List.set_cons_zero, List.set_cons_succ, exists_eq_left', exists_eq_left, exists_eq, V.int.injEq, V.str.injEq, V.bl.injEq, V.ref.injEq, List.cons.injEq, and_true, true_and, List.getElem?_cons_zero, List.getElem?_cons_succ, Option.some.injEq, List.append_nil, exists_and_left, cxOf_K, false_and, and_false, exists_false, false_or, or_false, exists_eq', exists_const, sg_eq, S_eq, S_toList, S_ne, tFor_eq, tLc_eq, iList_eq, iTup_eq, iRng1_eq, iStr_eq, decide_eq_true_eq, Bool.not_eq_true', decide_eq_false_iff_not, if_true, if_false, Bool.false_eq_true, reduceCtorEq, Bool.true_eq_false, decide_true, decide_false]
        refine ⟨(size_le (by simp only [List.length_cons, List.length_nil]; decide)), fun p np => ?_⟩
        have b1 := (bits_at i hi).1
        have hA2 : (upd H4 p (.lst [V.int 1, V.int 2, V.int 4, V.int 8, V.int 16, V.int 32, V.int 64, V.int 128, V.int 256, V.int 512])) L = some (.lst (((List.range i).filter fun k => n / 2 ^ k % 2 == 1).map fun k : Nat => V.int (k : Int))) := by
          rw [upd_ne (ne_of_none hA np)]
          exact hA
        refine ⟨_, sq_of upd_same, _, b1, _, rfl, CDivN_ok _ _ (Nat.two_pow_pos i) (pow_lt10 i hi), by decide, rfl, ?_⟩
        have bt : ((n : Int).fdiv ((2 ^ i : Nat) : Int) % 2 = 1) ↔ (n / 2 ^ i % 2 == 1) = true := by
          rw [Int.fdiv_eq_ediv_of_nonneg _ (Int.natCast_nonneg _), ← Int.natCast_ediv, beq_iff_eq]
          omega
        have e3 : (List.range (i + 1)).filter (fun k => n / 2 ^ k % 2 == 1) = if n / 2 ^ i % 2 == 1 then (List.range i).filter (fun k => n / 2 ^ k % 2 == 1) ++ [i] else (List.range i).filter (fun k => n / 2 ^ k % 2 == 1) := by
          rw [List.range_succ, List.filter_append]
          cases hb : n / 2 ^ i % 2 == 1 <;> simp [hb]
        refine ite2 (fun h => ?_) (fun h => ?_)
        · have hb := bt.mp h
          rw [hb, if_pos rfl] at e3
          refine cput hA2 hn4 hi2 ⟨?_, same_mut (s4.trans (same_new np)) hL⟩
          rw [e3, List.map_append]
          rfl
        · have hb : (n / 2 ^ i % 2 == 1) = false := by
            rw [← Bool.not_eq_true]
            exact fun z => h (bt.mpr z)
          rw [hb, if_neg (fun z => nomatch z)] at e3
          refine cskip hA2 hn4 ⟨?_, s4.trans (same_new np)⟩
          rw [e3]
      rintro acc H4 hA hn4 ⟨rfl, s4⟩
      -- the signs of these places
      have hks : ∀ x ∈ (List.range 10).filter (fun k => n / 2 ^ k % 2 == 1), x < 10 := fun x hx => List.mem_range.mp (List.mem_filter.mp hx).1
      have est : strokeT n = ((List.range 10).filter fun k => n / 2 ^ k % 2 == 1).map (97 + ·) := rfl
      have hk10 : ((List.range 10).filter fun k => n / 2 ^ k % 2 == 1).length ≤ 10 := List.length_filter_le _ _
      generalize (List.range 10).filter (fun k => n / 2 ^ k % 2 == 1) = ks at hA hn4 hks est hk10
      refine ⟨L, rfl, ⟨_, sq_of hA⟩, fun L2 hL2 => ?_⟩
      refine comp_list (ks.map fun k : Nat => V.int (k : Int)) (fun rest acc H5 => ∃ done todo : List Nat, ks = done ++ todo ∧ rest = todo.map (fun k : Nat => V.int (k : Int)) ∧ acc = done.map (fun k => V.str (S [97 + k])) ∧ Same H4 H5) (by rw [List.length_map]; omega) ⟨[], ks, rfl, rfl, rfl, same_new hL2⟩ upd_same (fun r acc H5 ⟨_, _, _, _, _, s5⟩ => sq_of (s5 _ _ hA)) ?_ ?_
      · rintro i x r acc H5 hA5 hn5 hi5 ⟨done, todo, e, er, rfl, s5⟩
        cases todo with
        | nil => cases er
        | cons k todo =>
          cases er
          have hk : k < 10 := hks k (by rw [e]; exact List.mem_append_right _ List.mem_cons_self)
          simp only [wipe, List.map_cons, List.map_nil, List.set_cons_succ, List.set_cons_zero, tSeq, tAsg, tAnd, tOr, tNot, tTest, tB, tOp, tUn, tCB, tCons, tNil, tVar, tC, gName, rI0, rI, rU, rEq, rNe, rIxS, rIxL, rIxT, tRet, tRetN, tTup, tLst, tSl, tPart, tNoPart, rSlS, tIf, tIfS, tNext, tDrop, tCall, tBM, tBM0, tAndV, tOrV, tNotV, tM0, tM1, gSub, rSetL, sFld, gCons_eq, gNil_eq, tCallS_eq, tDGet, sDPut, tMeth, tMake, tFld, tChain, tIsN, tNotN,
  List.set_cons_zero, List.set_cons_succ, exists_eq_left', exists_eq_left, exists_eq, V.int.injEq, V.str.injEq, V.bl.injEq, V.ref.injEq, List.cons.injEq, and_true, true_and, List.getElem?_cons_zero, List.getElem?_cons_succ, Option.some.injEq, List.append_nil, exists_and_left, cxOf_K, false_and, and_false, exists_false, false_or, or_false, exists_eq', exists_const, sg_eq, S_eq, S_toList, S_ne, tFor_eq, tLc_eq, iList_eq, iTup_eq, iRng1_eq, iStr_eq, decide_eq_true_eq, Bool.not_eq_true', decide_eq_false_iff_not, if_true, if_false, Bool.false_eq_true, reduceCtorEq, Bool.true_eq_false, decide_true, decide_false]
          unfold tYes
          simp only [if_true]
          refine ⟨(size_le (by (try simp only [S_len, List.length_append, List.length_cons, List.length_nil]); omega)), _, (bits_at k hk).2, cput hA5 hn5 hi5 ⟨done ++ [k], todo, by rw [e]; simp, rfl, by rw [List.map_append]; rfl, same_mut s5 hL2⟩⟩
      rintro acc H5 hA5 hn5 ⟨done, todo, e, er, rfl, s5⟩
      cases todo with
      | cons k todo => cases er
      | nil =>
      rw [List.append_nil] at e
      subst e
      have e1 : (ks.map fun k => V.str (S [97 + k])) = ((strokeT n).map fun c => S [c]).map V.str := by
        rw [est, List.map_map, List.map_map]
        rfl
      rw [e1] at hA5
      have hst := stroke_ok n (by omega) (by omega)
      refine ⟨L2, rfl, _, .inl (sq_of hA5), signs_size _ (by omega), ?_⟩
      rw [join_signs]
      have B5 := B3.same (s4.trans s5)
      have hok := strokeOk_T n (by omega) (by omega)
      refine if_new false (fun R rr => ?_) (fun z => nomatch z) (fun _ H6 s6 => ?_)
      · simp only [tSeq, tAsg, tAnd, tOr, tNot, tTest, tB, tOp, tUn, tCB, tCons, tNil, tVar, tC, gName, rI0, rI, rU, rEq, rNe, rIxS, rIxL, rIxT, tRet, tRetN, tTup, tLst, tSl, tPart, tNoPart, rSlS, tIf, tIfS, tNext, tDrop, tCall, tBM, tBM0, tAndV, tOrV, tNotV, tM0, tM1, gSub, rSetL, sFld, gCons_eq, gNil_eq, tCallS_eq, tDGet, sDPut, tMeth, tMake, tFld, tChain, tIsN, tNotN,
  List.set_cons_zero, List.set_cons_succ, exists_eq_left', exists_eq_left, exists_eq, V.int.injEq, V.str.injEq, V.bl.injEq, V.ref.injEq, List.cons.injEq, and_true, true_and, List.getElem?_cons_zero, List.getElem?_cons_succ, Option.some.injEq, List.append_nil, exists_and_left, cxOf_K, false_and, and_false, exists_false, false_or, or_false, exists_eq', exists_const, sg_eq, S_eq, S_toList, S_ne, tFor_eq, tLc_eq, iList_eq, iTup_eq, iRng1_eq, iStr_eq, decide_eq_true_eq, Bool.not_eq_true', decide_eq_false_iff_not, if_true, if_false, Bool.false_eq_true, reduceCtorEq, Bool.true_eq_false, decide_true, decide_false]
        refine .inr (.inl ⟨strokeT n, rfl, stroke_asc n, by omega, fun v H6 s6 d6 => ?_⟩)
        rw [if_pos hok, numT_T n (by omega)] at d6
        refine ⟨v, .int (n : Int), .int (n : Int), rfl, d6, .int _, trivial, true, rfl, ?_⟩
        rw [if_neg (fun z => nomatch z)]
        refine .inr (.inr ⟨strokeT n, rfl, stroke_asc n, by omega, fun v2 H7 s7 d7 => ?_⟩)
        rw [if_pos hok] at d7
        rw [dp_non d7]
        exact rr _ (s6.trans s7)
      · try simp only [tSeq, tAsg, tAnd, tOr, tNot, tTest, tB, tOp, tUn, tCB, tCons, tNil, tVar, tC, gName, rI0, rI, rU, rEq, rNe, rIxS, rIxL, rIxT, tRet, tRetN, tTup, tLst, tSl, tPart, tNoPart, rSlS, tIf, tNext, tDrop, tCall, tBM, tBM0, tAndV, tOrV, tNotV, tM0, tM1, gSub, rSetL, sFld, gCons_eq, gNil_eq, tCallS_eq, tDGet, sDPut, tMeth, tMake, tFld, tChain, tIsN, tNotN,
  List.set_cons_zero, List.set_cons_succ, exists_eq_left', exists_eq_left, exists_eq, V.int.injEq, V.str.injEq, V.bl.injEq, V.ref.injEq, List.cons.injEq, and_true, true_and, List.getElem?_cons_zero, List.getElem?_cons_succ, Option.some.injEq, List.append_nil, exists_and_left, cxOf_K, false_and, and_false, exists_false, false_or, or_false, exists_eq', exists_const, sg_eq, S_eq, S_toList, S_ne, tFor_eq, tLc_eq, iList_eq, iTup_eq, iRng1_eq, iStr_eq, decide_eq_true_eq, Bool.not_eq_true', decide_eq_false_iff_not, if_true, if_false, Bool.false_eq_true, reduceCtorEq, Bool.true_eq_false, decide_true, decide_false]
        refine fin _ _ ⟨G3, _, _, rfl, B5.same s6, ?_⟩
        rw [if_pos hn3]
        exact .str _
    · have hn3 : ¬ (1 ≤ (n : Int) ∧ (n : Int) < 1024) := of_decide_eq_false e
      try simp only [tSeq, tAsg, tAnd, tOr, tNot, tTest, tB, tOp, tUn, tCB, tCons, tNil, tVar, tC, gName, rI0, rI, rU, rEq, rNe, rIxS, rIxL, rIxT, tRet, tRetN, tTup, tLst, tSl, tPart, tNoPart, rSlS, tIf, tNext, tDrop, tCall, tBM, tBM0, tAndV, tOrV, tNotV, tM0, tM1, gSub, rSetL, sFld, gCons_eq, gNil_eq, tCallS_eq, tDGet, sDPut, tMeth, tMake, tFld, tChain, tIsN, tNotN,
  List.set_cons_zero, List.set_cons_succ, exists_eq_left', exists_eq_left, exists_eq, V.int.injEq, V.str.injEq, V.bl.injEq, V.ref.injEq, List.cons.injEq, and_true, true_and, List.getElem?_cons_zero, List.getElem?_cons_succ, Option.some.injEq, List.append_nil, exists_and_left, cxOf_K, false_and, and_false, exists_false, false_or, or_false, exists_eq', exists_const, sg_eq, S_eq, S_toList, S_ne, tFor_eq, tLc_eq, iList_eq, iTup_eq, iRng1_eq, iStr_eq, decide_eq_true_eq, Bool.not_eq_true', decide_eq_false_iff_not, if_true, if_false, Bool.false_eq_true, reduceCtorEq, Bool.true_eq_false, decide_true, decide_false]
      refine fin _ _ ⟨G3, _, _, rfl, B3, ?_⟩
      rw [if_neg hn3]
      exact .tup (st_of f3) (.cons (.str _) (.cons (.bl true) .nil))
  rintro σ H4 ⟨G4, dv, y, rfl, B4, hdv⟩
  try simp only [tSeq, tAsg, tAnd, tOr, tNot, tTest, tB, tOp, tUn, tCB, tCons, tNil, tVar, tC, gName, rI0, rI, rU, rEq, rNe, rIxS, rIxL, rIxT, tRet, tRetN, tTup, tLst, tSl, tPart, tNoPart, rSlS, tIf, tNext, tDrop, tCall, tBM, tBM0, tAndV, tOrV, tNotV, tM0, tM1, gSub, rSetL, sFld, gCons_eq, gNil_eq, tCallS_eq, tDGet, sDPut, tMeth, tMake, tFld, tChain, tIsN, tNotN,
  List.set_cons_zero, List.set_cons_succ, exists_eq_left', exists_eq_left, exists_eq, V.int.injEq, V.str.injEq, V.bl.injEq, V.ref.injEq, List.cons.injEq, and_true, true_and, List.getElem?_cons_zero, List.getElem?_cons_succ, Option.some.injEq, List.append_nil, exists_and_left, cxOf_K, false_and, and_false, exists_false, false_or, or_false, exists_eq', exists_const, sg_eq, S_eq, S_toList, S_ne, tFor_eq, tLc_eq, iList_eq, iTup_eq, iRng1_eq, iStr_eq, decide_eq_true_eq, Bool.not_eq_true', decide_eq_false_iff_not, if_true, if_false, Bool.false_eq_true, reduceCtorEq, Bool.true_eq_false, decide_true, decide_false]
  have okst : ∀ {c : Prop} [Decidable c], okD 6 (if c then .str (S (strokeT n)) else badD) := by
    intro c _
    split
    · exact asc_ok (stroke_asc n)
    · exact badOk
  refine if_new false (fun R rr => ?_) (fun z => nomatch z) (fun _ H5 s5 => ?_)
  · simp only [tSeq, tAsg, tAnd, tOr, tNot, tTest, tB, tOp, tUn, tCB, tCons, tNil, tVar, tC, gName, rI0, rI, rU, rEq, rNe, rIxS, rIxL, rIxT, tRet, tRetN, tTup, tLst, tSl, tPart, tNoPart, rSlS, tIf, tIfS, tNext, tDrop, tCall, tBM, tBM0, tAndV, tOrV, tNotV, tM0, tM1, gSub, rSetL, sFld, gCons_eq, gNil_eq, tCallS_eq, tDGet, sDPut, tMeth, tMake, tFld, tChain, tIsN, tNotN,
  List.set_cons_zero, List.set_cons_succ, exists_eq_left', exists_eq_left, exists_eq, V.int.injEq, V.str.injEq, V.bl.injEq, V.ref.injEq, List.cons.injEq, and_true, true_and, List.getElem?_cons_zero, List.getElem?_cons_succ, Option.some.injEq, List.append_nil, exists_and_left, cxOf_K, false_and, and_false, exists_false, false_or, or_false, exists_eq', exists_const, sg_eq, S_eq, S_toList, S_ne, tFor_eq, tLc_eq, iList_eq, iTup_eq, iRng1_eq, iStr_eq, decide_eq_true_eq, Bool.not_eq_true', decide_eq_false_iff_not, if_true, if_false, Bool.false_eq_true, reduceCtorEq, Bool.true_eq_false, decide_true, decide_false]
    refine .inl ⟨n, rfl, fun v H5 s5 d5 => ?_⟩
    rw [Int.toNat_natCast] at d5
    refine ⟨v, dv, _, rfl, d5, Dp.ext (B4.1.trans s5) hdv, okst, true, rfl, ?_⟩
    rw [if_neg (fun z => nomatch z)]
    refine .inl ⟨_, rfl, fun v2 H6 s6 d6 => ⟨(size_le (by simp only [List.length_cons, List.length_nil]; decide)), ?_⟩⟩
    rw [if_neg (by omega)] at d6
    (intro p2 np2; generalize hqp2 : upd H6 p2 _ = H7; obtain ⟨e7, f7⟩ := al_ np2 hqp2; clear hqp2)
    refine ⟨v2, _, badD, rfl, Dp.ext e7 d6, .tup (st_of f7) (.cons (.str _) (.cons (.bl true) .nil)), badOk, true, rfl, ?_⟩
    exact rr _ ((s5.trans s6).trans e7)
  have B5 := B4.same s5
  simp only [tNext]
  refine seq_fin (fun σ' H' => ∃ (G6 : Hp) (t : Tx), σ' = [some (.ref a), some (.ref b), some (.int (n : Int)), some dv, y, some (.str (S t)), none, none, none, none, none] ∧ Bx b G6 H' ∧ asc t ∧ t.length ≤ 5) ?_ ?_
  · intro nx fin
    simp only [tSeq, tAsg, tAnd, tOr, tNot, tTest, tB, tOp, tUn, tCB, tCons, tNil, tVar, tC, gName, rI0, rI, rU, rEq, rNe, rIxS, rIxL, rIxT, tRet, tRetN, tTup, tLst, tSl, tPart, tNoPart, rSlS, tIf, tNext, tDrop, tCall, tBM, tBM0, tAndV, tOrV, tNotV, tM0, tM1, gSub, rSetL, sFld, gCons_eq, gNil_eq, tCallS_eq, tDGet, sDPut, tMeth, tMake, tFld, tChain, tIsN, tNotN,
  List.set_cons_zero, List.set_cons_succ, exists_eq_left', exists_eq_left, exists_eq, V.int.injEq, V.str.injEq, V.bl.injEq, V.ref.injEq, List.cons.injEq, and_true, true_and, List.getElem?_cons_zero, List.getElem?_cons_succ, Option.some.injEq, List.append_nil, exists_and_left, cxOf_K, false_and, and_false, exists_false, false_or, or_false, exists_eq', exists_const, sg_eq, S_eq, S_toList, S_ne, tFor_eq, tLc_eq, iList_eq, iTup_eq, iRng1_eq, iStr_eq, decide_eq_true_eq, Bool.not_eq_true', decide_eq_false_iff_not, if_true, if_false, Bool.false_eq_true, reduceCtorEq, Bool.true_eq_false, decide_true, decide_false]
    refine take_ B5 (by decide) (by decide) fun r6 H6 hr6 B6 => ?_
    refine ⟨_, rfl, by omega, by omega, fun L hL => ?_⟩
    rw [Int.toNat_natCast]
    refine signs_draw (fun c => c < 128) (by omega) B6 hL (fun _ => rfl) (fun i G' H' Q' _ _ B q => ?_) ?_
    · simp only [wipe, List.map_cons, List.map_nil, List.set_cons_succ, List.set_cons_zero, tSeq, tAsg, tAnd, tOr, tNot, tTest, tB, tOp, tUn, tCB, tCons, tNil, tVar, tC, gName, rI0, rI, rU, rEq, rNe, rIxS, rIxL, rIxT, tRet, tRetN, tTup, tLst, tSl, tPart, tNoPart, rSlS, tIf, tIfS, tNext, tDrop, tCall, tBM, tBM0, tAndV, tOrV, tNotV, tM0, tM1, gSub, rSetL, sFld, gCons_eq, gNil_eq, tCallS_eq, tDGet, sDPut, tMeth, tMake, tFld, tChain, tIsN, tNotN,
  List.set_cons_zero, List.set_cons_succ, exists_eq_left', exists_eq_left, exists_eq, V.int.injEq, V.str.injEq, V.bl.injEq, V.ref.injEq, List.cons.injEq, and_true, true_and, List.getElem?_cons_zero, List.getElem?_cons_succ, Option.some.injEq, List.append_nil, exists_and_left, cxOf_K, false_and, and_false, exists_false, false_or, or_false, exists_eq', exists_const, sg_eq, S_eq, S_toList, S_ne, tFor_eq, tLc_eq, iList_eq, iTup_eq, iRng1_eq, iStr_eq, decide_eq_true_eq, Bool.not_eq_true', decide_eq_false_iff_not, if_true, if_false, Bool.false_eq_true, reduceCtorEq, Bool.true_eq_false, decide_true, decide_false]
      refine take_ B (by decide) (by decide) fun r H4 hr B4 => ?_
      simp only [tSeq, tAsg, tAnd, tOr, tNot, tTest, tB, tOp, tUn, tCB, tCons, tNil, tVar, tC, gName, rI0, rI, rU, rEq, rNe, rIxS, rIxL, rIxT, tRet, tRetN, tTup, tLst, tSl, tPart, tNoPart, rSlS, tIf, tIfS, tNext, tDrop, tCall, tBM, tBM0, tAndV, tOrV, tNotV, tM0, tM1, gSub, rSetL, sFld, gCons_eq, gNil_eq, tCallS_eq, tDGet, sDPut, tMeth, tMake, tFld, tChain, tIsN, tNotN,
  List.set_cons_zero, List.set_cons_succ, exists_eq_left', exists_eq_left, exists_eq, V.int.injEq, V.str.injEq, V.bl.injEq, V.ref.injEq, List.cons.injEq, and_true, true_and, List.getElem?_cons_zero, List.getElem?_cons_succ, Option.some.injEq, List.append_nil, exists_and_left, cxOf_K, false_and, and_false, exists_false, false_or, or_false, exists_eq', exists_const, sg_eq, S_eq, S_toList, S_ne, tFor_eq, tLc_eq, iList_eq, iTup_eq, iRng1_eq, iStr_eq, decide_eq_true_eq, Bool.not_eq_true', decide_eq_false_iff_not, if_true, if_false, Bool.false_eq_true, reduceCtorEq, Bool.true_eq_false, decide_true, decide_false]
      have h15 : r < [97, 98, 99, 100, 101, 102, 103, 104, 105, 106, 107, 65, 47, 32, 49].length := by
        show r < 15
        omega
      refine ⟨(size_le (by (try simp only [S_len, List.length_append, List.length_cons, List.length_nil]); omega)), _, atI_nat (List.getElem?_eq_getElem h15), q _ _ _ (Same.refl _) B4 ?_⟩
      exact List.all_eq_true.mp (show [97, 98, 99, 100, 101, 102, 103, 104, 105, 106, 107, 65, 47, 32, 49].all (fun c => decide (c < 128)) = true from rfl) _ (List.getElem_mem h15) |> of_decide_eq_true
    intro t G8 H8 s8 B8 hl8 ht hp
    refine ⟨L, rfl, _, .inl (sq_of (B8.ex _ _ hl8)), signs_size t (by omega), ?_⟩
    rw [join_signs]
    exact fin _ _ ⟨G8, t, rfl, B8, fun c hc => hp c hc, by omega⟩
  rintro σ H6 ⟨G6, t, rfl, B6, ta, tl⟩
  refine seq_fin (fun σ' H' => ∃ (L : Addr), σ' = [some (.ref a), some (.ref b), some (.int (n : Int)), some dv, y, some (.str (S t)), some (.ref L), none, none, none, none] ∧ Same H6 H' ∧ H' L = some (.lst ((placesT t).map V.int))) ?_ ?_
  · intro nx fin
    simp only [tSeq, tAsg, tAnd, tOr, tNot, tTest, tB, tOp, tUn, tCB, tCons, tNil, tVar, tC, gName, rI0, rI, rU, rEq, rNe, rIxS, rIxL, rIxT, tRet, tRetN, tTup, tLst, tSl, tPart, tNoPart, rSlS, tIf, tNext, tDrop, tCall, tBM, tBM0, tAndV, tOrV, tNotV, tM0, tM1, gSub, rSetL, sFld, gCons_eq, gNil_eq, tCallS_eq, tDGet, sDPut, tMeth, tMake, tFld, tChain, tIsN, tNotN,
  List.set_cons_zero, List.set_cons_succ, exists_eq_left', exists_eq_left, exists_eq, V.int.injEq, V.str.injEq, V.bl.injEq, V.ref.injEq, List.cons.injEq, and_true, true_and, List.getElem?_cons_zero, List.getElem?_cons_succ, Option.some.injEq, List.append_nil, exists_and_left, cxOf_K, false_and, and_false, exists_false, false_or, or_false, exists_eq', exists_const, sg_eq, S_eq, S_toList, S_ne, tFor_eq, tLc_eq, iList_eq, iTup_eq, iRng1_eq, iStr_eq, decide_eq_true_eq, Bool.not_eq_true', decide_eq_false_iff_not, if_true, if_false, Bool.false_eq_true, reduceCtorEq, Bool.true_eq_false, decide_true, decide_false]
    intro L hL
    refine comp_str t (fun rest acc H1 => ∃ done, t = done ++ rest ∧ acc = (placesT done).map V.int ∧ Same H6 H1) (by omega) ⟨[], rfl, rfl, same_new hL⟩ upd_same ?_ ?_
    · rintro i c r acc H1 hA hn hi ⟨done, e, rfl, s1⟩
      simp only [wipe, List.map_cons, List.map_nil, List.set_cons_succ, List.set_cons_zero, tSeq, tAsg, tAnd, tOr, tNot, tTest, tB, tOp, tUn, tCB, tCons, tNil, tVar, tC, gName, rI0, rI, rU, rEq, rNe, rIxS, rIxL, rIxT, tRet, tRetN, tTup, tLst, tSl, tPart, tNoPart, rSlS, tIf, tIfS, tNext, tDrop, tCall, tBM, tBM0, tAndV, tOrV, tNotV, tM0, tM1, gSub, rSetL, sFld, gCons_eq, gNil_eq, tCallS_eq, tDGet, sDPut, tMeth, tMake, tFld, tChain, tIsN, tNotN,
  List.set_cons_zero, List.set_cons_succ, exists_eq_left', exists_eq_left, exists_eq, V.int.injEq, V.str.injEq, V.bl.injEq, V.ref.injEq, List.cons.injEq, and_true, true_and, List.getElem?_cons_zero, List.getElem?_cons_succ, Option.some.injEq, List.append_nil, exists_and_left, cxOf_K, false_and, and_false, exists_false, false_or, or_false, exists_eq', exists_const, sg_eq, S_eq, S_toList, S_ne, tFor_eq, tLc_eq, iList_eq, iTup_eq, iRng1_eq, iStr_eq, decide_eq_true_eq, Bool.not_eq_true', decide_eq_false_iff_not, if_true, if_false, Bool.false_eq_true, reduceCtorEq, Bool.true_eq_false, decide_true, decide_false]
      unfold tYes
      simp only [if_true]
      have hc : c ∈ t := by rw [e]; exact List.mem_append_right _ List.mem_cons_self
      have ef : Txt.find (S [97, 98, 99, 100, 101, 102, 103, 104, 105, 106]) (S [c]) = posK c := find_pos c (ta c hc)
      rw [ef]
      refine cput hA hn hi ⟨done ++ [c], by rw [e]; simp, ?_, same_mut s1 hL⟩
      simp only [placesT, List.map_append, List.map_cons, List.map_nil]
    · rintro acc H1 hA hn ⟨done, e, rfl, s1⟩
      rw [List.append_nil] at e
      subst e
      exact fin _ _ ⟨L, rfl, s1, hA⟩
  rintro σ H7 ⟨L, rfl, s7, hL⟩
  refine seq_fin (fun σ' H' => σ' = [some (.ref a), some (.ref b), some (.int (n : Int)), some dv, y, some (.str (S t)), some (.ref L), some (.bl (strokeOk t)), none, none, none] ∧ Same H7 H') ?_ ?_
  · intro nx fin
    simp only [tSeq, tAsg, tAnd, tOr, tNot, tTest, tB, tOp, tUn, tCB, tCons, tNil, tVar, tC, gName, rI0, rI, rU, rEq, rNe, rIxS, rIxL, rIxT, tRet, tRetN, tTup, tLst, tSl, tPart, tNoPart, rSlS, tIf, tNext, tDrop, tCall, tBM, tBM0, tAndV, tOrV, tNotV, tM0, tM1, gSub, rSetL, sFld, gCons_eq, gNil_eq, tCallS_eq, tDGet, sDPut, tMeth, tMake, tFld, tChain, tIsN, tNotN,
  List.set_cons_zero, List.set_cons_succ, exists_eq_left', exists_eq_left, exists_eq, V.int.injEq, V.str.injEq, V.bl.injEq, V.ref.injEq, List.cons.injEq, and_true, true_and, List.getElem?_cons_zero, List.getElem?_cons_succ, Option.some.injEq, List.append_nil, exists_and_left, cxOf_K, false_and, and_false, exists_false, false_or, or_false, exists_eq', exists_const, sg_eq, S_eq, S_toList, S_ne, tFor_eq, tLc_eq, iList_eq, iTup_eq, iRng1_eq, iStr_eq, decide_eq_true_eq, Bool.not_eq_true', decide_eq_false_iff_not, if_true, if_false, Bool.false_eq_true, reduceCtorEq, Bool.true_eq_false, decide_true, decide_false]
    have plen : (placesT t).length = t.length := List.length_map _
    have gi := good_iff t
    have no : ∀ H', Same H7 H' → strokeOk t = false → nx [some (.ref a), some (.ref b), some (.int (n : Int)), some dv, y, some (.str (S t)), some (.ref L), some (.bl false), none, none, none] H' := fun H' s' h => fin _ _ ⟨by rw [h], s'⟩
    refine ⟨rfl, ite2 (fun h1 => ?_) (fun h1 => ?_)⟩
    · refine ⟨L, _, rfl, .inl (sq_of hL), rfl, by rw [List.all_map]; exact List.all_eq_true.mpr fun _ _ => rfl, _, rfl, ?_⟩
      rw [inV_I]
      simp only [if_true]
      cases hc : (placesT t).contains (-1) with
      | true =>
        simp only [Bool.not_true, Bool.false_eq_true, if_false]
        refine no _ (Same.refl _) ?_
        rw [← Bool.not_eq_true, gi]
        exact fun z => z.2.1 (List.contains_iff_mem.mp hc)
      | false =>
        simp only [Bool.not_false, if_true]
        have hc' : -1 ∉ placesT t := fun z => by
          rw [List.contains_iff_mem.mpr z] at hc
          cases hc
        refine ⟨L, placesT t, rfl, sq_of hL, by omega, fun ns' q hperm hpw nq => ?_⟩
        generalize hq : upd H7 q _ = H9
        obtain ⟨e9, f9⟩ := al_ nq hq
        refine ⟨_, _, .lst (sq_of (e9 _ _ hL)) (dp_ints _), .lst (sq_of f9) (dp_ints _), shaped_ints _, shaped_ints _, _, rfl, ?_⟩
        rw [eqv_ints]
        by_cases hs : placesT t = ns'
        · rw [decide_eq_true hs, if_pos rfl]
          unfold tLenSetG
          simp only [tSeq, tAsg, tAnd, tOr, tNot, tTest, tB, tOp, tUn, tCB, tCons, tNil, tVar, tC, gName, rI0, rI, rU, rEq, rNe, rIxS, rIxL, rIxT, tRet, tRetN, tTup, tLst, tSl, tPart, tNoPart, rSlS, tIf, tNext, tDrop, tCall, tBM, tBM0, tAndV, tOrV, tNotV, tM0, tM1, gSub, rSetL, sFld, gCons_eq, gNil_eq, tCallS_eq, tDGet, sDPut, tMeth, tMake, tFld, tChain, tIsN, tNotN,
  List.set_cons_zero, List.set_cons_succ, exists_eq_left', exists_eq_left, exists_eq, V.int.injEq, V.str.injEq, V.bl.injEq, V.ref.injEq, List.cons.injEq, and_true, true_and, List.getElem?_cons_zero, List.getElem?_cons_succ, Option.some.injEq, List.append_nil, exists_and_left, cxOf_K, false_and, and_false, exists_false, false_or, or_false, exists_eq', exists_const, sg_eq, S_eq, S_toList, S_ne, tFor_eq, tLc_eq, iList_eq, iTup_eq, iRng1_eq, iStr_eq, decide_eq_true_eq, Bool.not_eq_true', decide_eq_false_iff_not, if_true, if_false, Bool.false_eq_true, reduceCtorEq, Bool.true_eq_false, decide_true, decide_false]
          refine ⟨placesT t, sq_of (e9 _ _ hL), by omega, _, .inl (sq_of (e9 _ _ hL)), rfl, ?_⟩
          refine fin _ _ ⟨?_, e9⟩
          have e5 : strokeOk t = decide (((distI (placesT t) : Nat) : Int) = ((((placesT t).map V.int).length : Nat) : Int)) := by
            rw [Bool.eq_iff_iff, gi, decide_eq_true_eq, List.length_map]
            constructor
            · intro z
              rw [z.2.2.2]
            · intro z
              refine ⟨by simpa using h1, hc', ?_, by omega⟩
              rw [hs]
              exact hpw
          rw [e5]
        · rw [decide_eq_false hs, if_neg (fun z => nomatch z)]
          refine no _ e9 ?_
          rw [← Bool.not_eq_true, gi]
          exact fun z => hs (perm_sorted hperm.symm z.2.2.1 hpw)
    · refine no _ (Same.refl _) ?_
      rw [← Bool.not_eq_true, gi]
      exact fun z => z.1 (by simpa using h1)
  rintro σ H8 ⟨rfl, s8⟩
  simp only [tSeq, tAsg, tAnd, tOr, tNot, tTest, tB, tOp, tUn, tCB, tCons, tNil, tVar, tC, gName, rI0, rI, rU, rEq, rNe, rIxS, rIxL, rIxT, tRet, tRetN, tTup, tLst, tSl, tPart, tNoPart, rSlS, tIf, tNext, tDrop, tCall, tBM, tBM0, tAndV, tOrV, tNotV, tM0, tM1, gSub, rSetL, sFld, gCons_eq, gNil_eq, tCallS_eq, tDGet, sDPut, tMeth, tMake, tFld, tChain, tIsN, tNotN,
  List.set_cons_zero, List.set_cons_succ, exists_eq_left', exists_eq_left, exists_eq, V.int.injEq, V.str.injEq, V.bl.injEq, V.ref.injEq, List.cons.injEq, and_true, true_and, List.getElem?_cons_zero, List.getElem?_cons_succ, Option.some.injEq, List.append_nil, exists_and_left, cxOf_K, false_and, and_false, exists_false, false_or, or_false, exists_eq', exists_const, sg_eq, S_eq, S_toList, S_ne, tFor_eq, tLc_eq, iList_eq, iTup_eq, iRng1_eq, iStr_eq, decide_eq_true_eq, Bool.not_eq_true', decide_eq_false_iff_not, if_true, if_false, Bool.false_eq_true, reduceCtorEq, Bool.true_eq_false, decide_true, decide_false]
  have s68 : Same H6 H8 := s7.trans s8
  refine if_pure (strokeOk t) (fun R rr => ?_) (fun ok => ?_) (fun bad => ?_)
  · simp only [tSeq, tAsg, tAnd, tOr, tNot, tTest, tB, tOp, tUn, tCB, tCons, tNil, tVar, tC, gName, rI0, rI, rU, rEq, rNe, rIxS, rIxL, rIxT, tRet, tRetN, tTup, tLst, tSl, tPart, tNoPart, rSlS, tIf, tIfS, tNext, tDrop, tCall, tBM, tBM0, tAndV, tOrV, tNotV, tM0, tM1, gSub, rSetL, sFld, gCons_eq, gNil_eq, tCallS_eq, tDGet, sDPut, tMeth, tMake, tFld, tChain, tIsN, tNotN,
  List.set_cons_zero, List.set_cons_succ, exists_eq_left', exists_eq_left, exists_eq, V.int.injEq, V.str.injEq, V.bl.injEq, V.ref.injEq, List.cons.injEq, and_true, true_and, List.getElem?_cons_zero, List.getElem?_cons_succ, Option.some.injEq, List.append_nil, exists_and_left, cxOf_K, false_and, and_false, exists_false, false_or, or_false, exists_eq', exists_const, sg_eq, S_eq, S_toList, S_ne, tFor_eq, tLc_eq, iList_eq, iTup_eq, iRng1_eq, iStr_eq, decide_eq_true_eq, Bool.not_eq_true', decide_eq_false_iff_not, if_true, if_false, Bool.false_eq_true, reduceCtorEq, Bool.true_eq_false, decide_true, decide_false]
    exact rr
  · obtain ⟨_, h2, _, _⟩ := (good_iff t).mp ok
    have plen : (placesT t).length = t.length := List.length_map _
    simp only [tSeq, tAsg, tAnd, tOr, tNot, tTest, tB, tOp, tUn, tCB, tCons, tNil, tVar, tC, gName, rI0, rI, rU, rEq, rNe, rIxS, rIxL, rIxT, tRet, tRetN, tTup, tLst, tSl, tPart, tNoPart, rSlS, tIf, tNext, tDrop, tCall, tBM, tBM0, tAndV, tOrV, tNotV, tM0, tM1, gSub, rSetL, sFld, gCons_eq, gNil_eq, tCallS_eq, tDGet, sDPut, tMeth, tMake, tFld, tChain, tIsN, tNotN,
  List.set_cons_zero, List.set_cons_succ, exists_eq_left', exists_eq_left, exists_eq, V.int.injEq, V.str.injEq, V.bl.injEq, V.ref.injEq, List.cons.injEq, and_true, true_and, List.getElem?_cons_zero, List.getElem?_cons_succ, Option.some.injEq, List.append_nil, exists_and_left, cxOf_K, false_and, and_false, exists_false, false_or, or_false, exists_eq', exists_const, sg_eq, S_eq, S_toList, S_ne, tFor_eq, tLc_eq, iList_eq, iTup_eq, iRng1_eq, iStr_eq, decide_eq_true_eq, Bool.not_eq_true', decide_eq_false_iff_not, if_true, if_false, Bool.false_eq_true, reduceCtorEq, Bool.true_eq_false, decide_true, decide_false]
    refine ⟨⟨_, sq_of (s8 _ _ hL)⟩, fun L2 hL2 => ?_⟩
    refine comp_list ((placesT t).map V.int) (fun rest acc H5 => ∃ done todo : List Int, placesT t = done ++ todo ∧ rest = todo.map V.int ∧ acc = (done.map countC).map V.int ∧ Same H8 H5) (by rw [List.length_map]; omega) ⟨[], placesT t, rfl, rfl, rfl, same_new hL2⟩ upd_same (fun r acc H5 ⟨_, _, _, _, _, s5⟩ => sq_of (s5 _ _ (s8 _ _ hL))) ?_ ?_
    · rintro i x r acc H5 hA5 hn5 hi5 ⟨done, todo, e, er, rfl, s5⟩
      cases todo with
      | nil => cases er
      | cons k todo =>
        cases er
        have hk : k ∈ placesT t := by rw [e]; exact List.mem_append_right _ List.mem_cons_self
        obtain ⟨c, hc, rfl⟩ := List.mem_map.mp hk
        obtain ⟨j, hj, ej, _⟩ := pos_nat (c := c) fun z => h2 (z ▸ hk)
        simp only [wipe, List.map_cons, List.map_nil, List.set_cons_succ, List.set_cons_zero, tSeq, tAsg, tAnd, tOr, tNot, tTest, tB, tOp, tUn, tCB, tCons, tNil, tVar, tC, gName, rI0, rI, rU, rEq, rNe, rIxS, rIxL, rIxT, tRet, tRetN, tTup, tLst, tSl, tPart, tNoPart, rSlS, tIf, tIfS, tNext, tDrop, tCall, tBM, tBM0, tAndV, tOrV, tNotV, tM0, tM1, gSub, rSetL, sFld, gCons_eq, gNil_eq, tCallS_eq, tDGet, sDPut, tMeth, tMake, tFld, tChain, tIsN, tNotN,
  List.set_cons_zero, List.set_cons_succ, exists_eq_left', exists_eq_left, exists_eq, V.int.injEq, V.str.injEq, V.bl.injEq, V.ref.injEq, List.cons.injEq, and_true, true_and, List.getElem?_cons_zero, List.getElem?_cons_succ, Option.some.injEq, List.append_nil, exists_and_left, cxOf_K, false_and, and_false, exists_false, false_or, or_false, exists_eq', exists_const, sg_eq, S_eq, S_toList, S_ne, tFor_eq, tLc_eq, iList_eq, iTup_eq, iRng1_eq, iStr_eq, decide_eq_true_eq, Bool.not_eq_true', decide_eq_false_iff_not, if_true, if_false, Bool.false_eq_true, reduceCtorEq, Bool.true_eq_false, decide_true, decide_false]
        unfold tYes
        simp only [if_true]
        refine ⟨(size_le (by simp only [List.length_cons, List.length_nil]; decide)), fun p np => ?_⟩
        have hA6 : (upd H5 p (.lst [V.int 1, V.int 2, V.int 4, V.int 8, V.int 16, V.int 32, V.int 64, V.int 128, V.int 256, V.int 512])) L2 = some (.lst ((done.map countC).map V.int)) := by
          rw [upd_ne (ne_of_none hA5 np)]
          exact hA5
        rw [ej]
        refine ⟨_, sq_of upd_same, _, counts_at j hj, cput hA6 hn5 hi5 ⟨done ++ [(j : Int)], todo, by rw [e, ej]; simp, rfl, ?_, same_mut (s5.trans (same_new np)) hL2⟩⟩
        rw [List.map_append, List.map_append]
        rfl
    rintro acc H5 hA5 hn5 ⟨done, todo, e, er, rfl, s5⟩
    cases todo with
    | cons k todo => cases er
    | nil =>
    rw [List.append_nil] at e
    subst e
    refine ⟨L2, _, rfl, sq_of hA5, ?_⟩
    simp only [tSeq, tAsg, tAnd, tOr, tNot, tTest, tB, tOp, tUn, tCB, tCons, tNil, tVar, tC, gName, rI0, rI, rU, rEq, rNe, rIxS, rIxL, rIxT, tRet, tRetN, tTup, tLst, tSl, tPart, tNoPart, rSlS, tIf, tNext, tDrop, tCall, tBM, tBM0, tAndV, tOrV, tNotV, tM0, tM1, gSub, rSetL, sFld, gCons_eq, gNil_eq, tCallS_eq, tDGet, sDPut, tMeth, tMake, tFld, tChain, tIsN, tNotN,
  List.set_cons_zero, List.set_cons_succ, exists_eq_left', exists_eq_left, exists_eq, V.int.injEq, V.str.injEq, V.bl.injEq, V.ref.injEq, List.cons.injEq, and_true, true_and, List.getElem?_cons_zero, List.getElem?_cons_succ, Option.some.injEq, List.append_nil, exists_and_left, cxOf_K, false_and, and_false, exists_false, false_or, or_false, exists_eq', exists_const, sg_eq, S_eq, S_toList, S_ne, tFor_eq, tLc_eq, iList_eq, iTup_eq, iRng1_eq, iStr_eq, decide_eq_true_eq, Bool.not_eq_true', decide_eq_false_iff_not, if_true, if_false, Bool.false_eq_true, reduceCtorEq, Bool.true_eq_false, decide_true, decide_false]
    refine .inr (.inr ⟨t, rfl, ta, by omega, fun v H9 s9 d9 => ?_⟩)
    rw [if_pos ok] at d9
    rw [dp_non d9, if_pos rfl]
    refine .inr (.inl ⟨t, rfl, ta, by omega, fun v2 H10 s10 d10 => ?_⟩)
    rw [if_pos ok] at d10
    exact ⟨v2, _, .int (numT t), rfl, d10, .int _, trivial, k _⟩
  · simp only [tSeq, tAsg, tAnd, tOr, tNot, tTest, tB, tOp, tUn, tCB, tCons, tNil, tVar, tC, gName, rI0, rI, rU, rEq, rNe, rIxS, rIxL, rIxT, tRet, tRetN, tTup, tLst, tSl, tPart, tNoPart, rSlS, tIf, tNext, tDrop, tCall, tBM, tBM0, tAndV, tOrV, tNotV, tM0, tM1, gSub, rSetL, sFld, gCons_eq, gNil_eq, tCallS_eq, tDGet, sDPut, tMeth, tMake, tFld, tChain, tIsN, tNotN,
  List.set_cons_zero, List.set_cons_succ, exists_eq_left', exists_eq_left, exists_eq, V.int.injEq, V.str.injEq, V.bl.injEq, V.ref.injEq, List.cons.injEq, and_true, true_and, List.getElem?_cons_zero, List.getElem?_cons_succ, Option.some.injEq, List.append_nil, exists_and_left, cxOf_K, false_and, and_false, exists_false, false_or, or_false, exists_eq', exists_const, sg_eq, S_eq, S_toList, S_ne, tFor_eq, tLc_eq, iList_eq, iTup_eq, iRng1_eq, iStr_eq, decide_eq_true_eq, Bool.not_eq_true', decide_eq_false_iff_not, if_true, if_false, Bool.false_eq_true, reduceCtorEq, Bool.true_eq_false, decide_true, decide_false]
    refine .inr (.inr ⟨t, rfl, ta, by omega, fun v H9 s9 d9 => ⟨(size_le (by simp only [List.length_cons, List.length_nil]; decide)), ?_⟩⟩)
    rw [if_neg (by rw [bad]; decide)] at d9
    have bs := (badOk (n := 1)).shaped (by decide)
    (intro p5 np5; generalize hqp5 : upd H9 p5 _ = H10; obtain ⟨e10, f10⟩ := al_ np5 hqp5; clear hqp5)
    refine ⟨_, badD, Dp.ext e10 d9, .tup (st_of f10) (.cons (.str _) (.cons (.bl true) .nil)), bs, bs, true, by rw [(badOk (n := 1)).eqv], ?_⟩
    rw [if_pos rfl]
    refine .inr (.inl ⟨t, rfl, ta, by omega, fun v2 H11 s11 d11 => ⟨(size_le (by simp only [List.length_cons, List.length_nil]; decide)), ?_⟩⟩)
    rw [if_neg (by rw [bad]; decide)] at d11
    (intro p6 np6; generalize hqp6 : upd H11 p6 _ = H12; obtain ⟨e12, f12⟩ := al_ np6 hqp6; clear hqp6)
    refine ⟨_, badD, Dp.ext e12 d11, .tup (st_of f12) (.cons (.str _) (.cons (.bl true) .nil)), bs, bs, ?_⟩
    rw [(badOk (n := 1)).eqv]
    exact k _
end
def d_l_begun : He.DefD := ⟨("_law_begun", none), "_law_begun", "_law_begun", defArgs s_l_begun, defBody s_l_begun, defScope s_l_begun, [], []⟩
def d_l_take : He.DefD := ⟨("_law_take", none), "_law_take", "_law_take", defArgs s_l_take, defBody s_l_take, defScope s_l_take, [], []⟩
def d_l_alike : He.DefD := ⟨("_law_alike", none), "_law_alike", "_law_alike", defArgs s_l_alike, defBody s_l_alike, defScope s_l_alike, [], []⟩
def d_stroke_of : He.DefD := ⟨("stroke_of", none), "stroke_of", "stroke_of", defArgs s_stroke_of, defBody s_stroke_of, defScope s_stroke_of, [], []⟩
def d_need_stroke : He.DefD := ⟨("need_stroke", none), "need_stroke", "need_stroke", defArgs s_need_stroke, defBody s_need_stroke, defScope s_need_stroke, [], []⟩
def d_number_of : He.DefD := ⟨("number_of", none), "number_of", "number_of", defArgs s_number_of, defBody s_number_of, defScope s_number_of, [], []⟩
def d_l_told : He.DefD := ⟨("_law_told", none), "_law_told", "_law_told", defArgs s_l_told, defBody s_l_told, defScope s_l_told, [], []⟩
def d_law : He.DefD := ⟨("law", none), "law", "law", defArgs s_law, defBody s_law, defScope s_law, [], []⟩
def fn : List He.DefD := [d_l_begun, d_l_take, d_l_alike, d_stroke_of, d_need_stroke, d_number_of, d_l_told, d_law]
def fa : List He.Fa := [.glo "_law_begun", .glo "_law_take", .glo "_law_alike", .glo "stroke_of", .glo "need_stroke", .glo "number_of", .glo "_law_told", .glo "law", .free "ValueError", .free "bool", .free "int", .free "isinstance", .free "len", .free "list", .free "range", .free "set", .free "sorted", .free "str", .free "sum", .free "tuple", .glo "ChordError", .exm "BadStroke" "ChordError" true, .glo "BadStroke", .exm "BadStroke" "BadStroke" true, .glo "BadEntry", .exm "BadStroke" "BadEntry" false, .glo "BadBook", .exm "BadStroke" "BadBook" false, .glo "NoRow", .exm "BadStroke" "NoRow" false, .exc "BadStroke", .glo "COUNTS", .str "KEYS" (S [97, 98, 99, 100, 101, 102, 103, 104, 105, 106])]
abbrev R : PySem.W.OpenRow := PySem.W.OpenLaw.row PySem.Challenge.rw_chords_k01_strokes
def exb (K : PySem.W.Frag) : Bool := He.tupB K "COUNTS" [He.Dv.int 1, He.Dv.int 2, He.Dv.int 4, He.Dv.int 8, He.Dv.int 16, He.Dv.int 32, He.Dv.int 64, He.Dv.int 128, He.Dv.int 256, He.Dv.int 512] && exB K
abbrev hk : PySem.W.Hook := He.hookX 5 fa fn [] [] exb
def ob (s : PySem.W.SharedT) : He.AlX := He.obsX 5 fa fn [] [] exb (HandSHeadRun.getT s)
theorem ob_eq (s : PySem.W.SharedT) : ob s = hk.obs s.abs := He.obsX_eq (HandSHeadRun.getT_eq s)
theorem run (w : World) : HandSHeadRun.RunEq R (PySem.W.view R.prog [20]) hk ob 4000 ["ChordError", "BadStroke", "BadEntry", "BadBook", "NoRow", "need_stroke", "number_of", "stroke_of", "_law_begun", "_law_take", "_law_alike", "_law_stroke", "_law_pool", "_law_row", "_law_told", "KEYS", "COUNTS"] w := by
  intro os
  kernel_rfl
theorem facts {P : Program} {w : World} {K : PySem.W.Frag} {h : Heap} {mg : Str → Option Value} {f : Addr} (X : K.In h) (G : h.Ns mainGlobals mg) (hfa : mg ("law" : Str) = some (.ref f)) (c : He.SaysX fa fn [] [] exb w h K) :
    ∃ fd : FuncData, (∀ (s : Shared) (v : Value), BindsTo s fd ⟨[v], []⟩ [("_law_script", v)]) ∧ ∀ base : Heap, K.In base → base.Ns mainGlobals mg → FnOk P w K mg base CX0 20 f fd ["_law_script"] (sp_law K) := by
  have e := hfa.symm.trans (He.glo_ok X G (c.t.d.fact 7 (f := .glo "law") rfl))
  cases e
  obtain ⟨x1, x2, x3, x4⟩ := He.exc_ok (c.t.d.fact 30 (f := .exc "BadStroke") rfl)
  have xb := (He.ba (show (He.tupB K "COUNTS" [He.Dv.int 1, He.Dv.int 2, He.Dv.int 4, He.Dv.int 8, He.Dv.int 16, He.Dv.int 32, He.Dv.int 64, He.Dv.int 128, He.Dv.int 256, He.Dv.int 512] && exB K) = true from c.more)).2
  have xb2 := (He.ba (show (excCB K (He.ga K "BadStroke") && _) = true from xb)).2
  simp only [Bool.and_eq_true, decide_eq_true_eq] at xb2
  obtain ⟨⟨⟨⟨⟨q0, q1⟩, q2⟩, q3⟩, q4⟩, q5⟩ := xb2
  have ex : ExF K mg := { g_ChordError := He.glo_ok X G (c.t.d.fact 20 (f := .glo "ChordError") rfl), g_BadStroke := He.glo_ok X G (c.t.d.fact 22 (f := .glo "BadStroke") rfl), g_BadEntry := He.glo_ok X G (c.t.d.fact 24 (f := .glo "BadEntry") rfl), g_BadBook := He.glo_ok X G (c.t.d.fact 26 (f := .glo "BadBook") rfl), g_NoRow := He.glo_ok X G (c.t.d.fact 28 (f := .glo "NoRow") rfl), x_BadStroke := x1, k_BadStroke := x2, b_BadStroke := x3, t_BadStroke := x4, c_BadStroke := excCB_ok (He.ba (show (excCB K (He.ga K "BadStroke") && _) = true from xb)).1, m_ChordError := He.exm_ok (c.t.d.fact 21 (f := .exm "BadStroke" "ChordError" true) rfl), q_ChordError := q0, m_BadStroke := He.exm_ok (c.t.d.fact 23 (f := .exm "BadStroke" "BadStroke" true) rfl), q_BadStroke := q1, m_BadEntry := He.exm_ok (c.t.d.fact 25 (f := .exm "BadStroke" "BadEntry" false) rfl), q_BadEntry := q2, m_BadBook := He.exm_ok (c.t.d.fact 27 (f := .exm "BadStroke" "BadBook" false) rfl), q_BadBook := q3, m_NoRow := He.exm_ok (c.t.d.fact 29 (f := .exm "BadStroke" "NoRow" false) rfl), q_NoRow := q4, q_ValueError := q5 }
  obtain ⟨fd_l_begun, F_l_begun⟩ : ∃ fd, FunS K "_law_begun" s_l_begun (He.ga K "_law_begun") fd := c.t.d.def_ 0 (d := d_l_begun) rfl
  have m_l_begun : mg "_law_begun" = some (.ref _) := He.glo_ok X G (c.t.d.fact 0 (f := .glo "_law_begun") rfl)
  have n_l_begun := FunD.bindsN (ps := ["_law_script"]) F_l_begun fun _ _ _ _ _ _ us hl => match us, hl with | [_], _ => rfl
  obtain ⟨fd_l_take, F_l_take⟩ : ∃ fd, FunS K "_law_take" s_l_take (He.ga K "_law_take") fd := c.t.d.def_ 1 (d := d_l_take) rfl
  have m_l_take : mg "_law_take" = some (.ref _) := He.glo_ok X G (c.t.d.fact 1 (f := .glo "_law_take") rfl)
  have n_l_take := FunD.bindsN (ps := ["_law_box", "_law_many"]) F_l_take fun _ _ _ _ _ _ us hl => match us, hl with | [_, _], _ => rfl
  obtain ⟨fd_l_alike, F_l_alike⟩ : ∃ fd, FunS K "_law_alike" s_l_alike (He.ga K "_law_alike") fd := c.t.d.def_ 2 (d := d_l_alike) rfl
  have m_l_alike : mg "_law_alike" = some (.ref _) := He.glo_ok X G (c.t.d.fact 2 (f := .glo "_law_alike") rfl)
  have n_l_alike := FunD.bindsN (ps := ["_law_found", "_law_due"]) F_l_alike fun _ _ _ _ _ _ us hl => match us, hl with | [_, _], _ => rfl
  obtain ⟨fd_stroke_of, F_stroke_of⟩ : ∃ fd, FunS K "stroke_of" s_stroke_of (He.ga K "stroke_of") fd := c.t.d.def_ 3 (d := d_stroke_of) rfl
  have m_stroke_of : mg "stroke_of" = some (.ref _) := He.glo_ok X G (c.t.d.fact 3 (f := .glo "stroke_of") rfl)
  have n_stroke_of := FunD.bindsN (ps := ["number"]) F_stroke_of fun _ _ _ _ _ _ us hl => match us, hl with | [_], _ => rfl
  obtain ⟨fd_need_stroke, F_need_stroke⟩ : ∃ fd, FunS K "need_stroke" s_need_stroke (He.ga K "need_stroke") fd := c.t.d.def_ 4 (d := d_need_stroke) rfl
  have m_need_stroke : mg "need_stroke" = some (.ref _) := He.glo_ok X G (c.t.d.fact 4 (f := .glo "need_stroke") rfl)
  have n_need_stroke := FunD.bindsN (ps := ["text"]) F_need_stroke fun _ _ _ _ _ _ us hl => match us, hl with | [_], _ => rfl
  obtain ⟨fd_number_of, F_number_of⟩ : ∃ fd, FunS K "number_of" s_number_of (He.ga K "number_of") fd := c.t.d.def_ 5 (d := d_number_of) rfl
  have m_number_of : mg "number_of" = some (.ref _) := He.glo_ok X G (c.t.d.fact 5 (f := .glo "number_of") rfl)
  have n_number_of := FunD.bindsN (ps := ["stroke"]) F_number_of fun _ _ _ _ _ _ us hl => match us, hl with | [_], _ => rfl
  obtain ⟨fd_l_told, F_l_told⟩ : ∃ fd, FunS K "_law_told" s_l_told (He.ga K "_law_told") fd := c.t.d.def_ 6 (d := d_l_told) rfl
  have m_l_told : mg "_law_told" = some (.ref _) := He.glo_ok X G (c.t.d.fact 6 (f := .glo "_law_told") rfl)
  have n_l_told := FunD.bindsN (ps := ["_law_way", "_law_value"]) F_l_told fun _ _ _ _ _ _ us hl => match us, hl with | [_, _], _ => rfl
  obtain ⟨fd_law, F_law⟩ : ∃ fd, FunS K "law" s_law (He.ga K "law") fd := c.t.d.def_ 7 (d := d_law) rfl
  have n_law := FunD.bindsA (ps := ["_law_script"]) F_law fun _ _ _ _ _ _ us hl => match us, hl with | [_], _ => rfl
  have b_ValueError : mg "ValueError" = none := He.free_ok X G (c.t.d.fact 8 (f := .free "ValueError") rfl)
  have b_bool : mg "bool" = none := He.free_ok X G (c.t.d.fact 9 (f := .free "bool") rfl)
  have b_int : mg "int" = none := He.free_ok X G (c.t.d.fact 10 (f := .free "int") rfl)
  have b_isinstance : mg "isinstance" = none := He.free_ok X G (c.t.d.fact 11 (f := .free "isinstance") rfl)
  have b_len : mg "len" = none := He.free_ok X G (c.t.d.fact 12 (f := .free "len") rfl)
  have b_list : mg "list" = none := He.free_ok X G (c.t.d.fact 13 (f := .free "list") rfl)
  have b_range : mg "range" = none := He.free_ok X G (c.t.d.fact 14 (f := .free "range") rfl)
  have b_set : mg "set" = none := He.free_ok X G (c.t.d.fact 15 (f := .free "set") rfl)
  have b_sorted : mg "sorted" = none := He.free_ok X G (c.t.d.fact 16 (f := .free "sorted") rfl)
  have b_str : mg "str" = none := He.free_ok X G (c.t.d.fact 17 (f := .free "str") rfl)
  have b_sum : mg "sum" = none := He.free_ok X G (c.t.d.fact 18 (f := .free "sum") rfl)
  have b_tuple : mg "tuple" = none := He.free_ok X G (c.t.d.fact 19 (f := .free "tuple") rfl)
  have g_COUNTS : ∃ u, mg "COUNTS" = some u ∧ RelV (.ref (He.ga K "COUNTS")) u := ⟨_, He.glo_ok X G (c.t.d.fact 31 (f := .glo "COUNTS") rfl), rfl⟩
  have t_COUNTS : ∀ H, SqT K H (He.ga K "COUNTS") ([1, 2, 4, 8, 16, 32, 64, 128, 256, 512].map V.int) := He.tupB_ok (He.ba (show (He.tupB K "COUNTS" [He.Dv.int 1, He.Dv.int 2, He.Dv.int 4, He.Dv.int 8, He.Dv.int 16, He.Dv.int 32, He.Dv.int 64, He.Dv.int 128, He.Dv.int 256, He.Dv.int 512] && exB K) = true from c.more)).1
  have g_KEYS : ∃ u, mg "KEYS" = some u ∧ RelV (.str (S [97, 98, 99, 100, 101, 102, 103, 104, 105, 106])) u := by
    obtain ⟨t, e⟩ := He.str_ok X G (c.t.d.fact 32 (f := .str "KEYS" (S [97, 98, 99, 100, 101, 102, 103, 104, 105, 106])) rfl)
    exact ⟨_, e, _, rfl⟩
  refine ⟨fd_law, fun s v => n_law s [v] rfl, fun base _ _ => ?_⟩
  have c_l_begun : Cal P w K mg base CX0 1 "_law_begun" (sp_begun K) := cal_of F_l_begun (ok_begun F_l_begun (b_int := b_int) (b_len := b_len) (b_list := b_list)) m_l_begun n_l_begun
  have c_l_take : Cal P w K mg base CX0 1 "_law_take" sp_take := cal_of F_l_take (ok_take F_l_take ) m_l_take n_l_take
  have c_l_alike := cal_alike (P := P) (w := w) (base := base) F_l_alike n_l_alike m_l_alike (b_bool := b_bool) (b_int := b_int) (b_isinstance := b_isinstance) (b_len := b_len) (b_list := b_list) (b_range := b_range) (b_str := b_str) (b_tuple := b_tuple) 6
  have c_stroke_of : CalX P w K mg base 1 "stroke_of" (sp_strokeof K) := calX_of F_stroke_of (ok_strokeof F_stroke_of (ex := ex) (b_len := b_len) (b_range := b_range) (g_KEYS := g_KEYS) (g_COUNTS := g_COUNTS) (t_COUNTS := t_COUNTS)) m_stroke_of n_stroke_of
  have c_need_stroke : CalX P w K mg base 1 "need_stroke" (sp_need K) := calX_of F_need_stroke (ok_need F_need_stroke (ex := ex) (g_KEYS := g_KEYS)) m_need_stroke n_need_stroke
  have c_number_of : CalX P w K mg base 2 "number_of" (sp_number K) := calX_of F_number_of (ok_number F_number_of (b_sum := b_sum) (c_need_stroke := c_need_stroke) (g_COUNTS := g_COUNTS) (t_COUNTS := t_COUNTS) (g_KEYS := g_KEYS)) m_number_of n_number_of
  have c_l_told : Cal P w K mg base CX0 4 "_law_told" (sp_told K) := cal_of F_l_told (ok_told F_l_told (ex := ex) (b_ValueError := b_ValueError) (b_isinstance := b_isinstance) (c_stroke_of := c_stroke_of) (c_number_of := c_number_of) (c_need_stroke := c_need_stroke)) m_l_told n_l_told
  exact FnOk.mono (ok_law F_law (b_len := b_len) (b_range := b_range) (b_set := b_set) (b_sorted := b_sorted) (b_sum := b_sum) (c_l_begun := c_l_begun) (c_l_take := c_l_take) (c_l_alike := c_l_alike) (c_l_told := c_l_told)) (by decide)
end Ch
open PySem PySem.W PySem.Calls PyProof.Rows
set_option maxHeartbeats 0 in
theorem PySem.Challenge.cw_chords_k01_strokes_holds : PySem.Challenge.rw_chords_k01_strokes.Holds := by
  w_on; o_law
  refine HandSHeadRun.head_any (r := OpenLaw.row PySem.Challenge.rw_chords_k01_strokes) (q := view (OpenLaw.row PySem.Challenge.rw_chords_k01_strokes).prog [20]) (H := Ch.hk) (ob := Ch.ob) (M := 4000) (loose := ["ChordError", "BadStroke", "BadEntry", "BadBook", "NoRow", "need_stroke", "number_of", "stroke_of", "_law_begun", "_law_take", "_law_alike", "_law_stroke", "_law_pool", "_law_row", "_law_told", "KEYS", "COUNTS"]) (d := HandSHeadRun.topDef (OpenLaw.row PySem.Challenge.rw_chords_k01_strokes).prog 20) (kwd := []) Ch.ob_eq
    (by kernel_rfl) (fun s => by kernel_rfl) Ch.run (by kernel_rfl) (by kernel_rfl) (by kernel_rfl) (by rfl) (by first | assumption | decide +kernel) (by decide +kernel) ⟨rfl, rfl, rfl, rfl, rfl, by decide +kernel⟩ ?hw ?hc
  case hw => w_witness2
  case hc =>
    refine L2.walk_ofE (l := PySem.Challenge.rw_chords_k01_strokes) (n := 63) (k := 20) (x := "_law_script") (CX := L2.CX0) rfl (by decide) (by kernel_rfl) ⟨rfl, by decide, by decide⟩ ?F (fun _ _ _ _ z => z)
    intro w mg fa h Y G hmg0
    obtain ⟨K, KX, c⟩ := Y
    have hmg : mg ("law" : PySem.Str) = some (.ref fa) := by
      have e : (HandSHeadRun.topDef (OpenLaw.row PySem.Challenge.rw_chords_k01_strokes).prog 20).name = ("law" : PySem.Str) := by kernel_rfl
      rw [← e]
      exact hmg0
    obtain ⟨fd, hb, hF⟩ := Ch.facts (P := (PySem.Challenge.rw_chords_k01_strokes).prog) (w := w) KX G hmg c
    exact ⟨K, fd, Ch.sp_law K, KX, hb, fun H a ns hl _ hS => ⟨a, ns, rfl, hS, hl, fun _ => rfl⟩, hF⟩
#print axioms PySem.Challenge.cw_chords_k01_strokes_holds
