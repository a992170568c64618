import PyProof.Rows.All
import Wide.All
import OpenK.AllK
import Wide.FinOn
import KE.KStateDown
import HandS.ForMost
import HandS.ForSpec
import HandS.Codes
import HandS.IsInst
import HandS.Defaults
import HandS.TupAny
import HandS.Deep
import HandS.Conv
import HandS.TupLen
import HandS.Head0
import HandS.Head1
import HandS.Head2
import HandS.HeadEnd
import HandS.HeadHook1
import HandS.HeadHook2
import HandS.HeadHook3
import HandS.HeadHook4
import HandS.ExcOwn
import HandS.WordsExc
import HandS.ExcIs
import HandS.SetKeys
import PySem.Challenge.RW_chords_k02_pressed_and_rows
set_option Elab.async false
set_option linter.all false
set_option maxRecDepth 100000
set_option maxHeartbeats 2000000
namespace Ch
open PySem PySem.Spec PyProof.Rows L2
def top (i : Nat) : Stmt := PySem.Challenge.pw_chords_k02_pressed_and_rows.main.body.getD i (.Pass ⟨0, 0, 0, 0⟩)
/-! ### texts as lists of signs -/
abbrev S := SX.S
abbrev Tx := List Nat
theorem S_inj {a b : Tx} (h : S a = S b) : a = b := SX.S_inj h
theorem S_len (a : Tx) : (S a).length = a.length := SX.S_len a
theorem S_cat (a b : Tx) : S a ++ S b = S (a ++ b) := SX.S_cat a b
theorem str_inj {a b : Tx} : V.str (S a) = V.str (S b) ↔ a = b := ⟨fun h => S_inj (V.str.inj h), fun h => by rw [h]⟩
theorem S_toList (a : Tx) : (S a).cps.toList = a := rfl
theorem of_S (s : String) : Str.ofString s = S (s.toList.map Char.toNat) := Str.ofString_eq_toList s
theorem S_eq {a b : Tx} : S a = S b ↔ a = b := ⟨S_inj, fun h => by rw [h]⟩
theorem S_ne {a b : Tx} : (S a ≠ S b) ↔ a ≠ b := not_congr S_eq
theorem sg_eq (c : Nat) : ({ cps := #[c] } : Str) = S [c] := rfl
theorem lit_99_104_111_114_100_115_46_101_114_114_111_114_115 : Str.ofString "chords.errors" = S [99, 104, 111, 114, 100, 115, 46, 101, 114, 114, 111, 114, 115] := by decide +kernel
theorem lit_99_104_111_114_100_115_46_107_101_121_115 : Str.ofString "chords.keys" = S [99, 104, 111, 114, 100, 115, 46, 107, 101, 121, 115] := by decide +kernel
theorem lit_97_98_99_100_101_102_103_104_105_106 : Str.ofString "abcdefghij" = S [97, 98, 99, 100, 101, 102, 103, 104, 105, 106] := by decide +kernel
theorem lit_108_97_119_95_99_104_111_114_100_115_95_107_48_50_95_112_114_101_115_115_101_100_95_97_110_100_95_114_111_119_115 : Str.ofString "law_chords_k02_pressed_and_rows" = S [108, 97, 119, 95, 99, 104, 111, 114, 100, 115, 95, 107, 48, 50, 95, 112, 114, 101, 115, 115, 101, 100, 95, 97, 110, 100, 95, 114, 111, 119, 115] := by decide +kernel
theorem lit_ : Str.ofString "" = S [] := by decide +kernel
theorem lit_110_111_32_107_101_121 : Str.ofString "no key" = S [110, 111, 32, 107, 101, 121] := by decide +kernel
theorem lit_110_111_32_107_101_121_115 : Str.ofString "no keys" = S [110, 111, 32, 107, 101, 121, 115] := by decide +kernel
theorem lit_47 : Str.ofString "/" = S [47] := by decide +kernel
theorem lit_116_111_111_32_108_111_110_103_32_97_32_114_111_119 : Str.ofString "too long a row" = S [116, 111, 111, 32, 108, 111, 110, 103, 32, 97, 32, 114, 111, 119] := by decide +kernel
theorem lit_98_97_100 : Str.ofString "bad" = S [98, 97, 100] := by decide +kernel
theorem lit_110_111_32_115_116_114_111_107_101 : Str.ofString "no stroke" = S [110, 111, 32, 115, 116, 114, 111, 107, 101] := by decide +kernel
theorem lit_47_98_97 : Str.ofString "/ba" = S [47, 98, 97] := by decide +kernel
theorem lit_47_97_97 : Str.ofString "/aa" = S [47, 97, 97] := by decide +kernel
theorem lit_32 : Str.ofString " " = S [32] := by decide +kernel
theorem lit_47_107 : Str.ofString "/k" = S [47, 107] := by decide +kernel
theorem lit_107 : Str.ofString "k" = S [107] := by decide +kernel
theorem lit_97_98 : Str.ofString "ab" = S [97, 98] := by decide +kernel
theorem lit_65 : Str.ofString "A" = S [65] := by decide +kernel
theorem lit_47_97 : Str.ofString "/a" = S [47, 97] := by decide +kernel
theorem size_le {n : Nat} (h : n ≤ 1000000) : n ≤ sizeLine := Nat.le_trans h (by decide)
theorem size_lt {n : Nat} (h : n < 1000000) : n < sizeLine := Nat.lt_of_lt_of_le h (by decide)
theorem gCons_eq {g : TG} {t : TGs} {x : V} {r : List V} {σ : L2.St} {H : Hp} {Q : L2.St → Hp → Prop} : gCons g t (x :: r) σ H Q = g x σ H fun σ1 H1 => t r σ1 H1 Q := by
  unfold gCons
  apply propext
  constructor
  · rintro ⟨v, r', e, q⟩
    cases e
    exact q
  · exact fun q => ⟨_, _, rfl, q⟩
theorem gNil_eq {σ : L2.St} {H : Hp} {Q : L2.St → Hp → Prop} : gNil [] σ H Q = Q σ H := by
  unfold gNil
  exact propext ⟨fun q => q.2, fun q => ⟨rfl, q⟩⟩
theorem tCallS_eq {sp : Sp} {E : L2.St → XK} {t : TA} {σ : L2.St} {H : Hp} {Q : VK} : tCallS sp E t σ H Q = t σ H fun vs H1 => sp vs H1 Q (E σ) := rfl
/-! ### heaps -/
theorem same_new {H : Hp} {p : Addr} {o : HO} (h : H p = none) : Same H (upd H p o) := fun b x e => by
  rw [upd_ne (ne_of_none e h)]
  exact e
theorem same_mut {H H' : Hp} {p : Addr} {o : HO} (e : Same H H') (h : H p = none) : Same H (upd H' p o) := fun a u ha => by
  rw [upd_ne (ne_of_none ha h)]
  exact e a u ha
theorem sq_of {K : PySem.W.Frag} {H : Hp} {a : Addr} {xs : List V} (h : H a = some (.lst xs)) : SqL K H a xs := .inl (.inl h)
theorem st_of {K : PySem.W.Frag} {H : Hp} {a : Addr} {xs : List V} (h : H a = some (.tup xs)) : SqT K H a xs := .inl (.inl h)
theorem same_t {K : PySem.W.Frag} {H H' : Hp} {a : Addr} {xs : List V} (e : Same H H') (h : SqT K H a xs) : SqT K H' a xs := by
  rcases h with (h | ⟨o, h⟩) | h
  · exact .inl (.inl (e _ _ h))
  · exact .inl (.inr ⟨o, e _ _ h⟩)
  · exact .inr h
theorem same_l {K : PySem.W.Frag} {H H' : Hp} {a : Addr} {xs : List V} (e : Same H H') (h : SqL K H a xs) : SqL K H' a xs := e.seq h
theorem Dp.ext {K : PySem.W.Frag} {H H' : Hp} (e : Same H H') {v : V} {d : PyData} (h : Dp K H v d) : Dp K H' v d := by
  refine Dp.rec (motive_1 := fun v d _ => Dp K H' v d) (motive_2 := fun vs ds _ => DpAll K H' vs ds) ?_ ?_ ?_ ?_ ?_ ?_ ?_ ?_ h
  · exact .non
  · exact .bl
  · exact .int
  · exact .str
  · intro a xs ds hs _ ih
    exact .lst (same_l e hs) ih
  · intro a xs ds hs _ ih
    exact .tup (same_t e hs) ih
  · exact .nil
  · intro v vs d ds _ _ h1 h2
    exact .cons h1 h2
theorem DpAll.ext {K : PySem.W.Frag} {H H' : Hp} (e : Same H H') : ∀ {vs : List V} {ds : List PyData}, DpAll K H vs ds → DpAll K H' vs ds
  | _, _, .nil => .nil
  | _, _, .cons h t => .cons (Dp.ext e h) (DpAll.ext e t)
theorem DpAll.len {K : PySem.W.Frag} {H : Hp} : ∀ {vs : List V} {ds : List PyData}, DpAll K H vs ds → vs.length = ds.length
  | _, _, .nil => rfl
  | _, _, .cons _ t => congrArg (· + 1) (DpAll.len t)
theorem DpAll.get {K : PySem.W.Frag} {H : Hp} : ∀ {vs : List V} {ds : List PyData} {i : Nat} {d : PyData}, DpAll K H vs ds → ds[i]? = some d → ∃ v, vs[i]? = some v ∧ Dp K H v d
  | _, _, _, _, .nil, h => by simp at h
  | _, _, 0, _, .cons h _, e => by
    simp at e
    subst e
    exact ⟨_, rfl, h⟩
  | _, _, i + 1, _, .cons _ t, e => by
    obtain ⟨v, h1, h2⟩ := DpAll.get (i := i) t (by simpa using e)
    exact ⟨v, by simpa using h1, h2⟩
theorem DpAll.app {K : PySem.W.Frag} {H : Hp} : ∀ {vs ws : List V} {ds es : List PyData}, DpAll K H vs ds → DpAll K H ws es → DpAll K H (vs ++ ws) (ds ++ es)
  | _, _, _, _, .nil, h => h
  | _, _, _, _, .cons a t, h => .cons a (DpAll.app t h)
theorem dp_int {K : PySem.W.Frag} {H : Hp} {v : V} {i : Int} (h : Dp K H v (.int i)) : v = .int i := by cases h; rfl
theorem dp_str {K : PySem.W.Frag} {H : Hp} {v : V} {x : Str} (h : Dp K H v (.str x)) : v = .str x := by cases h; rfl
theorem dp_bl {K : PySem.W.Frag} {H : Hp} {v : V} {b : Bool} (h : Dp K H v (.bool b)) : v = .bl b := by cases h; rfl
theorem dp_non {K : PySem.W.Frag} {H : Hp} {v : V} (h : Dp K H v .none) : v = .non := by cases h; rfl
theorem dp_tup {K : PySem.W.Frag} {H : Hp} {v : V} {ds : List PyData} (h : Dp K H v (.tuple ds)) : ∃ a xs, v = .ref a ∧ SqT K H a xs ∧ DpAll K H xs ds := by
  cases h with
  | tup h1 h2 => exact ⟨_, _, rfl, h1, h2⟩
theorem dp_lst {K : PySem.W.Frag} {H : Hp} {v : V} {ds : List PyData} (h : Dp K H v (.list ds)) : ∃ a xs, v = .ref a ∧ SqL K H a xs ∧ DpAll K H xs ds := by
  cases h with
  | lst h1 h2 => exact ⟨_, _, rfl, h1, h2⟩
theorem dp_ints {K : PySem.W.Frag} {H : Hp} : ∀ ns : List Int, DpAll K H (ns.map V.int) (ns.map PyData.int)
  | [] => .nil
  | n :: r => .cons (.int n) (dp_ints r)
theorem dp_strs {K : PySem.W.Frag} {H : Hp} : ∀ ns : List Str, DpAll K H (ns.map V.str) (ns.map PyData.str)
  | [] => .nil
  | n :: r => .cons (.str n) (dp_strs r)
theorem shaped_ints (ns : List Int) : SeqAt.shaped (.list (ns.map PyData.int)) = true := by
  have h1 : ∀ ns : List Int, PyData.canLayAll0 (ns.map PyData.int) = true := fun ns => by
    induction ns with
    | nil => rfl
    | cons n r ih => simp only [List.map_cons, PyData.canLayAll0, PyData.canLay0, ih, Bool.and_true]
  have h2 : ∀ ns : List Int, PyData.depthAll (ns.map PyData.int) = 0 := fun ns => by
    induction ns with
    | nil => rfl
    | cons n r ih => simp only [List.map_cons, PyData.depthAll, PyData.depth, ih, Nat.max_self]
  simp only [SeqAt.shaped, PyData.canLay0, h1, PyData.depth, h2, Bool.true_and, decide_eq_true_eq]
  decide
theorem eqv_nil (ds : List PyData) : PyData.eqv (.list ds) (.list []) = ds.isEmpty := by
  cases ds with
  | nil => simp only [PyData.eqv, PyData.eqvAll, List.isEmpty_nil]
  | cons d r => simp only [PyData.eqv, PyData.eqvAll, List.isEmpty_cons]
/-- the tuples stay -/
def KT (G G' : Hp) : Prop := ∀ a xs, Rd G a (.tup xs) → Rd G' a (.tup xs)
theorem KT.of {G G' : Hp} (e : Same G G') : KT G G' := fun a xs h => by
  rcases h with h | ⟨o, h⟩
  · exact .inl (e _ _ h)
  · exact .inr ⟨o, e _ _ h⟩
theorem KT.refl (G : Hp) : KT G G := fun _ _ h => h
theorem KT.trans {G G1 G2 : Hp} (a : KT G G1) (b : KT G1 G2) : KT G G2 := fun p xs h => b p xs (a p xs h)
theorem KT.put {G : Hp} {p : Addr} {o o' : HO} (h : G p = some o) (h1 : ∀ xs, o ≠ .tup xs) (h2 : ∀ u xs, o ≠ .frz u (.tup xs)) : KT G (upd G p o') := fun a xs q => by
  rcases q with q | ⟨u, q⟩
  · exact .inl (by rw [upd_ne (fun e => h1 xs (by rw [e, h] at q; exact Option.some.inj q))]; exact q)
  · exact .inr ⟨u, by rw [upd_ne (fun e => h2 u xs (by rw [e, h] at q; exact Option.some.inj q))]; exact q⟩
theorem KT.putL {G : Hp} {p : Addr} {xs : List V} {o' : HO} (h : G p = some (.lst xs)) : KT G (upd G p o') := KT.put h (fun _ q => by cases q) fun _ _ q => by cases q
theorem KT.sq {K : PySem.W.Frag} {G G' : Hp} {a : Addr} {xs : List V} (e : KT G G') (h : SqT K G a xs) : SqT K G' a xs := by
  rcases h with h | h
  · exact .inl (e _ _ h)
  · exact .inr h
mutual
/-- data without lists -/
def noL : PyData → Bool
  | .none | .bool _ | .int _ | .str _ => true
  | .tuple ds => noLs ds
  | .list _ | .dict _ => false
def noLs : List PyData → Bool
  | [] => true
  | d :: r => noL d && noLs r
end
theorem Dp.kt {K : PySem.W.Frag} {H H' : Hp} (e : KT H H') {v : V} {d : PyData} (n : noL d = true) (h : Dp K H v d) : Dp K H' v d := by
  refine Dp.rec (motive_1 := fun v d _ => noL d = true → Dp K H' v d) (motive_2 := fun vs ds _ => noLs ds = true → DpAll K H' vs ds) ?_ ?_ ?_ ?_ ?_ ?_ ?_ ?_ h n
  · exact fun _ => .non
  · exact fun b _ => .bl b
  · exact fun i _ => .int i
  · exact fun x _ => .str x
  · intro a xs ds hs _ ih n
    simp only [noL, Bool.false_eq_true] at n
  · intro a xs ds hs _ ih n
    simp only [noL] at n
    exact .tup (e.sq hs) (ih n)
  · exact fun _ => .nil
  · intro v vs d ds _ _ h1 h2 n
    simp only [noLs, Bool.and_eq_true] at n
    exact .cons (h1 n.1) (h2 n.2)
theorem DpAll.kt {K : PySem.W.Frag} {H H' : Hp} (e : KT H H') : ∀ {vs : List V} {ds : List PyData}, noLs ds = true → DpAll K H vs ds → DpAll K H' vs ds
  | _, _, _, .nil => .nil
  | _, _, n, .cons h t => by
    simp only [noLs, Bool.and_eq_true] at n
    exact .cons (Dp.kt e n.1 h) (DpAll.kt e n.2 t)
/-- data that == and the laws' comparison read: no dict, less than so deep, texts of plain signs -/
def okD : Nat → PyData → Prop
  | 0, _ => False
  | _ + 1, .none => True
  | _ + 1, .bool _ => True
  | _ + 1, .int _ => True
  | _ + 1, .str x => PyData.strOk x = true
  | n + 1, .list ds => ds.length ≤ 100000 ∧ ∀ d ∈ ds, okD n d
  | n + 1, .tuple ds => ds.length ≤ 100000 ∧ ∀ d ∈ ds, okD n d
  | _ + 1, .dict _ => False
theorem okD.mono : ∀ {n : Nat} {d : PyData}, okD n d → okD (n + 1) d
  | 0, _, h => h.elim
  | _ + 1, .none, _ => trivial
  | _ + 1, .bool _, _ => trivial
  | _ + 1, .int _, _ => trivial
  | _ + 1, .str _, h => h
  | _ + 1, .list _, h => ⟨h.1, fun d hd => okD.mono (h.2 d hd)⟩
  | _ + 1, .tuple _, h => ⟨h.1, fun d hd => okD.mono (h.2 d hd)⟩
  | _ + 1, .dict _, h => h.elim
theorem okD.le {n m : Nat} {d : PyData} (h : okD n d) (l : n ≤ m) : okD m d := by
  induction l with
  | refl => exact h
  | step _ ih => exact ih.mono
theorem lay_all {p : PyData → Bool} : ∀ ds : List PyData, (∀ d ∈ ds, PyData.canLay0 d = true) → PyData.canLayAll0 ds = true
  | [], _ => rfl
  | d :: r, h => by
    simp only [PyData.canLayAll0, Bool.and_eq_true]
    exact ⟨h d List.mem_cons_self, lay_all (p := p) r fun e he => h e (List.mem_cons_of_mem _ he)⟩
theorem depth_all {n : Nat} : ∀ ds : List PyData, (∀ d ∈ ds, PyData.depth d ≤ n) → PyData.depthAll ds ≤ n
  | [], _ => Nat.zero_le _
  | d :: r, h => by
    simp only [PyData.depthAll]
    exact Nat.max_le.mpr ⟨h d List.mem_cons_self, depth_all r fun e he => h e (List.mem_cons_of_mem _ he)⟩
theorem okD.lay : ∀ {n : Nat} {d : PyData}, okD n d → PyData.canLay0 d = true ∧ PyData.depth d ≤ n
  | 0, _, h => h.elim
  | _ + 1, .none, _ => ⟨rfl, Nat.zero_le _⟩
  | _ + 1, .bool _, _ => ⟨rfl, Nat.zero_le _⟩
  | _ + 1, .int _, _ => ⟨rfl, Nat.zero_le _⟩
  | _ + 1, .str _, h => ⟨h, Nat.zero_le _⟩
  | n + 1, .list ds, h => by
    simp only [PyData.canLay0, PyData.depth]
    exact ⟨lay_all (p := fun _ => true) ds fun d hd => (h.2 d hd).lay.1, Nat.succ_le_succ (depth_all ds fun d hd => (h.2 d hd).lay.2)⟩
  | n + 1, .tuple ds, h => by
    simp only [PyData.canLay0, PyData.depth]
    exact ⟨lay_all (p := fun _ => true) ds fun d hd => (h.2 d hd).lay.1, Nat.succ_le_succ (depth_all ds fun d hd => (h.2 d hd).lay.2)⟩
  | _ + 1, .dict _, h => h.elim
theorem okD.shaped {n : Nat} {d : PyData} (h : okD n d) (l : n ≤ 64) : SeqAt.shaped d = true := by
  obtain ⟨h1, h2⟩ := h.lay
  simp only [SeqAt.shaped, h1, Bool.true_and, decide_eq_true_eq]
  omega
def asc (t : Tx) : Prop := ∀ c ∈ t, c < 128
theorem asc_ok {t : Tx} (h : asc t) : PyData.strOk (S t) = true := by
  simp only [PyData.strOk]
  rw [← Array.all_toList, List.all_eq_true]
  intro c hc
  have := h c hc
  simp only [decide_eq_true_eq]
  omega
theorem asc_app {a b : Tx} (ha : asc a) (hb : asc b) : asc (a ++ b) := fun c hc => (List.mem_append.mp hc).elim (ha c) (hb c)
theorem asc_drop {a : Tx} (n : Nat) (ha : asc a) : asc (a.drop n) := fun c hc => ha c (List.mem_of_mem_drop hc)
theorem asc_take {a : Tx} (n : Nat) (ha : asc a) : asc (a.take n) := fun c hc => ha c (List.mem_of_mem_take hc)
/-! ### a def by its name -/
structure Cal (P : Program) (w : World) (K : PySem.W.Frag) (mg : Str → Option Value) (base : Heap) (CX : CXT) (k : Nat) (x : Str) (sp : Sp) : Prop where
  ex : ∃ (f : Addr) (fd : FuncData) (ps : List Str), FnOk P w K mg base CX k f fd ps sp ∧ mg x = some (.ref f) ∧ PySem.W.keepIn K (.ref f) = true ∧ Binds K fd ps []
section
variable {X : Cx} {k j : Nat} {x m : Str} {sp : Sp} {p pos apos : Pos} {e o : Expr} {es : List Expr} {ta : TE} {t : TA}
theorem pe_c (c : Cal X.prog X.w X.K X.mg X.base CX0 k x sp) (hr : Room j X.A) (hk : k ≤ j) (hg : Gl X x) (ha : PA X (e :: es) t)
    (hdb : (x == ("__debug__" : Str)) = false := by decide) (he : starEach (e :: es) X.env = (false, eval e X.env) :: starEach es X.env := by rfl) (hpl : (backTo pos (starEach es X.env)).any (·.1) = false := by rfl) :
    PE X (.Call (.Name x p) (e :: es) [] pos) (tCall sp [] E0 t) := by
  obtain ⟨f, fd, ps, F, hm, kp, b⟩ := c.ex
  exact pe_call F (hr.mono hk) hg hm kp b .nil pass0 ha hdb he hpl
theorem pe_gc {v : V} (hg : Gl X x) (h : ∃ u, X.mg x = some u ∧ RelV v u) (hd : (x == ("__debug__" : Str)) = false := by decide) : PE X (.Name x pos) (tC v) := by
  obtain ⟨u, hm, r⟩ := h
  exact pe_glob hg hm r hd
end
/-! ### the box of a script's numbers: G is all that is known beside it -/
def Bx (b : Addr) (G H : Hp) : Prop := Same G H ∧ G b = none ∧ ∃ (l : Addr) (ns : List Int) (s : Int), G l = none ∧ H b = some (.lst [.ref l, .int s]) ∧ H l = some (.lst (ns.map V.int)) ∧ 0 ≤ s ∧ s < 2147483647
theorem Bx.ex {b : Addr} {G H : Hp} (h : Bx b G H) : Same G H := h.1
theorem Bx.alloc {b p : Addr} {G H : Hp} {o : HO} (h : Bx b G H) (hp : H p = none) : Bx b (upd G p o) (upd H p o) := by
  obtain ⟨s0, gb, l, ns, s, gl, hb, hl, r⟩ := h
  have nb : b ≠ p := ne_of_none hb hp
  have nl : l ≠ p := ne_of_none hl hp
  refine ⟨fun a u e => ?_, by rw [upd_ne nb]; exact gb, l, ns, s, by rw [upd_ne nl]; exact gl, by rw [upd_ne nb]; exact hb, by rw [upd_ne nl]; exact hl, r⟩
  by_cases ha : a = p
  · subst ha
    rw [upd_same] at e ⊢
    exact e
  · rw [upd_ne ha] at e ⊢
    exact s0 a u e
theorem Bx.put {b p : Addr} {G H : Hp} {o o' : HO} (h : Bx b G H) (hp : G p = some o) : Bx b (upd G p o') (upd H p o') := by
  obtain ⟨s0, gb, l, ns, s, gl, hb, hl, r⟩ := h
  have nb : b ≠ p := (ne_of_none hp gb).symm
  have nl : l ≠ p := (ne_of_none hp gl).symm
  refine ⟨fun a u e => ?_, by rw [upd_ne nb]; exact gb, l, ns, s, by rw [upd_ne nl]; exact gl, by rw [upd_ne nb]; exact hb, by rw [upd_ne nl]; exact hl, r⟩
  by_cases ha : a = p
  · subst ha
    rw [upd_same] at e ⊢
    exact e
  · rw [upd_ne ha] at e ⊢
    exact s0 a u e
abbrev FunS (K : PySem.W.Frag) (x : Str) (st : Stmt) (f : Addr) (fd : FuncData) : Prop := FunD K x x (defArgs st) (defBody st) (defScope st) [] [] f fd
theorem cal_of {P : Program} {w : World} {K : PySem.W.Frag} {mg : Str → Option Value} {base : Heap} {CX : CXT} {k : Nat} {x : Str} {st : Stmt} {f : Addr} {fd : FuncData} {ps : List Str} {sp : Sp} (F : FunS K x st f fd) (ok : FnOk P w K mg base CX k f fd ps sp) (m : mg x = some (.ref f)) (b : Binds K fd ps []) :
    Cal P w K mg base CX k x sp := ⟨f, fd, ps, ok, m, F.kp, b⟩
theorem start2 {a b c : Str} {u v : V} : L2.start [a, b, c] [u, v] = [some u, some v, none] := rfl
theorem cxOf_K {CX : CXT} {P : Program} {w : World} {K : PySem.W.Frag} {mg : Str → Option Value} {base : Heap} {N : List Str} {qual : Str} {scope : Scope} {f : Addr} {cd : Value} {A : Around} {outer : List Env} {s : Shared} {H : Hp} {E : XK} :
    (cxOf CX P w K mg base N qual scope f cd A outer s H E).K = K := rfl
/-- a new object: the heap behind it by a letter -/
theorem al_ {H H1 : Hp} {p : Addr} {o : HO} (hp : H p = none) (e : upd H p o = H1) : Same H H1 ∧ H1 p = some o := by
  subst e
  exact ⟨same_new hp, upd_same⟩
theorem alB_ {b p : Addr} {G H H1 : Hp} {o : HO} (B : Bx b G H) (hp : H p = none) (e : upd H p o = H1) : ∃ G1, G p = none ∧ Same G G1 ∧ Bx b G1 H1 ∧ G1 p = some o := by
  subst e
  exact ⟨upd G p o, B.ex.free hp, same_new (B.ex.free hp), B.alloc hp, upd_same⟩
theorem at0 {α : Type} (x : α) (r : List α) : atI (x :: r) 0 = some x := atI_nat (j := 0) rfl
theorem at1 {α : Type} (x y : α) (r : List α) : atI (x :: y :: r) 1 = some y := atI_nat (j := 1) rfl
theorem ixn {n j : Nat} (h : j < n) : ixN n (j : Int) = some j := by
  unfold ixN
  rw [if_pos (by omega), if_pos (by omega)]
  simp
theorem ix0 (n : Nat) : ixN (n + 1) 0 = some 0 := ixn (j := 0) (by omega)
/-! ### loops -/
theorem drop_cons {α : Type} {xs : List α} {i : Nat} {x : α} (h : xs[i]? = some x) : xs.drop i = x :: xs.drop (i + 1) := by
  obtain ⟨h1, h2⟩ := List.getElem?_eq_some_iff.mp h
  rw [← h2]
  exact List.drop_eq_getElem_cons h1
/-- the turns of a for, once what it walks has come -/
def LoopP (J : It) (g : TG) (tb : TS) (D : Ends) (σ : L2.St) (H : Hp) : Prop := ∃ W : Nat → Nat → L2.St → Hp → Prop, (∃ m, W 0 m σ H) ∧ ∀ i m σ H, W i m σ H →
  (J.stop i H ∧ D.nx σ H) ∨ (J.go i H ∧ ∃ N : L2.St → Hp → Prop, (∀ σ' H', N σ' H' → ∃ m', m' < m ∧ W (i + 1) m' σ' H') ∧ ∀ x H', J.yld i H x H' → g x σ H' fun σ2 H2 => tb { D with nx := N, ct := N, bk := D.nx } σ2 H2)
theorem tFor_eq {wi : TI} {g : TG} {tb : TS} {D : Ends} {σ : L2.St} {H : Hp} : tFor wi g tb D σ H = wi σ H fun J H1 => LoopP J g tb D σ H1 := rfl
/-- the turns of a comprehension, L the new list -/
def CompP (J : It) (g : TG) (tt : TT) (te : TE) (vs : List Nat) (σ : L2.St) (L : Addr) (Q : VK) (H : Hp) : Prop := ∃ W : Nat → Nat → Hp → Prop, (∃ m, W 0 m H) ∧ ∀ i m H, W i m H →
  (J.stop i H ∧ Q (.ref L) H) ∨ (J.go i H ∧ ∃ Nx : Hp → Prop, (∀ H', Nx H' → ∃ m', m' < m ∧ W (i + 1) m' H') ∧ ∀ x H', J.yld i H x H' → g x (wipe σ vs) H' fun σ2 H2 => wipe σ2 vs = wipe σ vs ∧ tt σ2 H2 fun b H3 =>
    if b = true then te σ2 H3 fun y H4 => ∃ acc, H4 L = some (.lst acc) ∧ acc.length < sizeLine ∧ Nx (upd H4 L (.lst (acc ++ [y]))) else Nx H3)
theorem tLc_eq {wi : TI} {g : TG} {tt : TT} {te : TE} {vs : List Nat} {σ : L2.St} {H : Hp} {Q : VK} : tLc wi g tt te vs σ H Q = wi σ H fun J H1 => ∀ L, H1 L = none → CompP J g tt te vs σ L Q (upd H1 L (.lst [])) := rfl
theorem iList_eq {K : PySem.W.Frag} {te : TE} {σ : L2.St} {H : Hp} {R : It → Hp → Prop} : iList K te σ H R = te σ H fun v H1 => ∃ a, v = .ref a ∧ (∃ xs, SqL K H1 a xs) ∧ R (Itl K a) H1 := rfl
theorem iTup_eq {K : PySem.W.Frag} {te : TE} {σ : L2.St} {H : Hp} {R : It → Hp → Prop} : iTup K te σ H R = te σ H fun v H1 => ∃ a, v = .ref a ∧ (∃ xs, SqT K H1 a xs) ∧ R (Itt K a) H1 := rfl
theorem iRng1_eq {t : TA} {σ : L2.St} {H : Hp} {R : It → Hp → Prop} : iRng1 t σ H R = t σ H fun vs H1 => ∃ j : Int, vs = [.int j] ∧ -(2 ^ 62) ≤ j ∧ j < 2 ^ 62 ∧ R (Itr 0 j.toNat) H1 := rfl
theorem iStr_eq {te : TE} {σ : L2.St} {H : Hp} {R : It → Hp → Prop} : iStr te σ H R = te σ H fun v H1 => ∃ x, v = .str x ∧ R (Its x) H1 := rfl
section
variable {g : TG} {tb : TS} {D : Ends} {σ : L2.St} {H : Hp} {tt : TT} {te : TE} {vs : List Nat} {L : Addr} {Q : VK}
/-- over a list that stands: Pv by what is left -/
theorem loop_list {K : PySem.W.Frag} {a : Addr} (xs : List V) (Pv : List V → L2.St → Hp → Prop) (h0 : Pv xs σ H) (hl : ∀ r σ H, Pv r σ H → SqL K H a xs)
    (hs : ∀ x r σ H, Pv (x :: r) σ H → g x σ H fun σ2 H2 => tb { D with nx := Pv r, ct := Pv r, bk := D.nx } σ2 H2) (hd : ∀ σ H, Pv [] σ H → D.nx σ H) : LoopP (Itl K a) g tb D σ H :=
  for_list (fun i σ H => Pv (xs.drop i) σ H) h0 (fun i σ H _ q => hl _ _ _ q) (fun i x σ H e q => by
    rw [drop_cons e] at q
    exact hs x _ σ H q) fun σ H q => hd σ H (by rw [List.drop_length] at q; exact q)
theorem loop_tup {K : PySem.W.Frag} {a : Addr} (xs : List V) (Pv : List V → L2.St → Hp → Prop) (h0 : Pv xs σ H) (hl : ∀ r σ H, Pv r σ H → SqT K H a xs)
    (hs : ∀ x r σ H, Pv (x :: r) σ H → g x σ H fun σ2 H2 => tb { D with nx := Pv r, ct := Pv r, bk := D.nx } σ2 H2) (hd : ∀ σ H, Pv [] σ H → D.nx σ H) : LoopP (Itt K a) g tb D σ H :=
  for_tup (fun i σ H => Pv (xs.drop i) σ H) h0 (fun i σ H _ q => hl _ _ _ q) (fun i x σ H e q => by
    rw [drop_cons e] at q
    exact hs x _ σ H q) fun σ H q => hd σ H (by rw [List.drop_length] at q; exact q)
/-- over a range from 0, by the turn -/
theorem loop_range {n : Nat} (Pv : Nat → L2.St → Hp → Prop) (h0 : Pv 0 σ H)
    (hs : ∀ i σ H, i < n → Pv i σ H → g (.int i) σ H fun σ2 H2 => tb { D with nx := Pv (i + 1), ct := Pv (i + 1), bk := D.nx } σ2 H2) (hd : ∀ σ H, Pv n σ H → D.nx σ H) : LoopP (Itr 0 n) g tb D σ H :=
  for_range Pv h0 (fun i σ H hi p => by
    have e0 : (0 : Int) + (i : Int) = (i : Int) := Int.zero_add _
    rw [e0]
    exact hs i σ H hi p) hd
/-- over a text's signs -/
theorem loop_str (cs : Tx) (Pv : Tx → L2.St → Hp → Prop) (h0 : Pv cs σ H)
    (hs : ∀ c r σ H, Pv (c :: r) σ H → g (.str (S [c])) σ H fun σ2 H2 => tb { D with nx := Pv r, ct := Pv r, bk := D.nx } σ2 H2) (hd : ∀ σ H, Pv [] σ H → D.nx σ H) : LoopP (Its (S cs)) g tb D σ H := by
  refine ⟨fun i m σ H => m = cs.length - i ∧ i ≤ cs.length ∧ Pv (cs.drop i) σ H, ⟨cs.length, by simp, Nat.zero_le _, h0⟩, ?_⟩
  rintro i m σ H ⟨rfl, hi, p⟩
  have sz : (S cs).cps.size = cs.length := by simp
  by_cases hlt : i < cs.length
  · refine .inr ⟨by show i < (S cs).cps.size; omega, Pv (cs.drop (i + 1)), fun σ' H' p' => ⟨cs.length - (i + 1), by omega, rfl, hlt, p'⟩, fun x H' y => ?_⟩
    obtain ⟨e, c, e2, e3⟩ := y
    subst e e3
    have e4 : cs[i]? = some c := by
      rw [← e2]
      simp
    rw [drop_cons e4] at p
    exact hs c _ σ _ p
  · have e : i = cs.length := by omega
    subst e
    rw [List.drop_length] at p
    exact .inl ⟨by show (S cs).cps.size ≤ _; omega, hd σ H p⟩
/-- comprehensions: what stands behind a turn -/
def CNx (L : Addr) (i : Nat) (P : List V → Hp → Prop) (H : Hp) : Prop := ∃ acc, H L = some (.lst acc) ∧ acc.length ≤ i ∧ P acc H
theorem cput {i : Nat} {acc : List V} {y : V} {P : List V → Hp → Prop} (hL : H L = some (.lst acc)) (ha : acc.length ≤ i) (hi : i < 1000000) (h : P (acc ++ [y]) (upd H L (.lst (acc ++ [y])))) :
    ∃ acc, H L = some (.lst acc) ∧ acc.length < sizeLine ∧ CNx L (i + 1) P (upd H L (.lst (acc ++ [y]))) :=
  ⟨acc, hL, size_lt (by omega), acc ++ [y], upd_same, by rw [List.length_append, List.length_singleton]; omega, h⟩
theorem cskip {i : Nat} {acc : List V} {P : List V → Hp → Prop} (hL : H L = some (.lst acc)) (ha : acc.length ≤ i) (h : P acc H) : CNx L (i + 1) P H := ⟨acc, hL, by omega, h⟩
theorem comp_list {K : PySem.W.Frag} {a : Addr} (xs : List V) (Pv : List V → List V → Hp → Prop) (hz : xs.length ≤ 1000000) (h0 : Pv xs [] H) (hL0 : H L = some (.lst [])) (hl : ∀ r acc H, Pv r acc H → SqL K H a xs)
    (hs : ∀ i x r acc H, H L = some (.lst acc) → acc.length ≤ i → i < 1000000 → Pv (x :: r) acc H → g x (wipe σ vs) H fun σ2 H2 => wipe σ2 vs = wipe σ vs ∧ tt σ2 H2 fun b H3 =>
      if b = true then te σ2 H3 fun y H4 => ∃ acc, H4 L = some (.lst acc) ∧ acc.length < sizeLine ∧ CNx L (i + 1) (Pv r) (upd H4 L (.lst (acc ++ [y]))) else CNx L (i + 1) (Pv r) H3)
    (hd : ∀ acc H, H L = some (.lst acc) → acc.length ≤ xs.length → Pv [] acc H → Q (.ref L) H) : CompP (Itl K a) g tt te vs σ L Q H := by
  refine ⟨fun i m H => m = xs.length - i ∧ i ≤ xs.length ∧ CNx L i (Pv (xs.drop i)) H, ⟨xs.length, by simp, Nat.zero_le _, [], hL0, Nat.le_refl _, h0⟩, ?_⟩
  rintro i m H ⟨rfl, hi, acc, hA, hn, p⟩
  have q := hl _ _ _ p
  by_cases hlt : i < xs.length
  · refine .inr ⟨⟨xs, xs[i], q, by simp [hlt]⟩, CNx L (i + 1) (Pv (xs.drop (i + 1))), fun H' p' => ⟨xs.length - (i + 1), by omega, rfl, hlt, p'⟩, fun x H' y => ?_⟩
    obtain ⟨e, y⟩ := y
    subst e
    rw [drop_cons (y xs q)] at p
    exact hs i x _ acc _ hA hn (by omega) p
  · have e : i = xs.length := by omega
    subst e
    rw [List.drop_length] at p
    exact .inl ⟨⟨xs, q, Nat.le_refl _⟩, hd acc H hA hn p⟩
theorem comp_tup {K : PySem.W.Frag} {a : Addr} (xs : List V) (Pv : List V → List V → Hp → Prop) (hz : xs.length ≤ 1000000) (h0 : Pv xs [] H) (hL0 : H L = some (.lst [])) (hl : ∀ r acc H, Pv r acc H → SqT K H a xs)
    (hs : ∀ i x r acc H, H L = some (.lst acc) → acc.length ≤ i → i < 1000000 → Pv (x :: r) acc H → g x (wipe σ vs) H fun σ2 H2 => wipe σ2 vs = wipe σ vs ∧ tt σ2 H2 fun b H3 =>
      if b = true then te σ2 H3 fun y H4 => ∃ acc, H4 L = some (.lst acc) ∧ acc.length < sizeLine ∧ CNx L (i + 1) (Pv r) (upd H4 L (.lst (acc ++ [y]))) else CNx L (i + 1) (Pv r) H3)
    (hd : ∀ acc H, H L = some (.lst acc) → acc.length ≤ xs.length → Pv [] acc H → Q (.ref L) H) : CompP (Itt K a) g tt te vs σ L Q H := by
  refine ⟨fun i m H => m = xs.length - i ∧ i ≤ xs.length ∧ CNx L i (Pv (xs.drop i)) H, ⟨xs.length, by simp, Nat.zero_le _, [], hL0, Nat.le_refl _, h0⟩, ?_⟩
  rintro i m H ⟨rfl, hi, acc, hA, hn, p⟩
  have q := hl _ _ _ p
  by_cases hlt : i < xs.length
  · refine .inr ⟨⟨xs, xs[i], q, by simp [hlt]⟩, CNx L (i + 1) (Pv (xs.drop (i + 1))), fun H' p' => ⟨xs.length - (i + 1), by omega, rfl, hlt, p'⟩, fun x H' y => ?_⟩
    obtain ⟨e, y⟩ := y
    subst e
    rw [drop_cons (y xs q)] at p
    exact hs i x _ acc _ hA hn (by omega) p
  · have e : i = xs.length := by omega
    subst e
    rw [List.drop_length] at p
    exact .inl ⟨⟨xs, q, Nat.le_refl _⟩, hd acc H hA hn p⟩
theorem comp_str (cs : Tx) (Pv : Tx → List V → Hp → Prop) (hz : cs.length ≤ 1000000) (h0 : Pv cs [] H) (hL0 : H L = some (.lst []))
    (hs : ∀ i c r acc H, H L = some (.lst acc) → acc.length ≤ i → i < 1000000 → Pv (c :: r) acc H → g (.str (S [c])) (wipe σ vs) H fun σ2 H2 => wipe σ2 vs = wipe σ vs ∧ tt σ2 H2 fun b H3 =>
      if b = true then te σ2 H3 fun y H4 => ∃ acc, H4 L = some (.lst acc) ∧ acc.length < sizeLine ∧ CNx L (i + 1) (Pv r) (upd H4 L (.lst (acc ++ [y]))) else CNx L (i + 1) (Pv r) H3)
    (hd : ∀ acc H, H L = some (.lst acc) → acc.length ≤ cs.length → Pv [] acc H → Q (.ref L) H) : CompP (Its (S cs)) g tt te vs σ L Q H := by
  refine ⟨fun i m H => m = cs.length - i ∧ i ≤ cs.length ∧ CNx L i (Pv (cs.drop i)) H, ⟨cs.length, by simp, Nat.zero_le _, [], hL0, Nat.le_refl _, h0⟩, ?_⟩
  rintro i m H ⟨rfl, hi, acc, hA, hn, p⟩
  have sz : (S cs).cps.size = cs.length := by simp
  by_cases hlt : i < cs.length
  · refine .inr ⟨by show i < (S cs).cps.size; omega, CNx L (i + 1) (Pv (cs.drop (i + 1))), fun H' p' => ⟨cs.length - (i + 1), by omega, rfl, hlt, p'⟩, fun x H' y => ?_⟩
    obtain ⟨e, c, e2, e3⟩ := y
    subst e e3
    have e4 : cs[i]? = some c := by
      rw [← e2]
      simp
    rw [drop_cons e4] at p
    exact hs i c _ acc _ hA hn (by omega) p
  · have e : i = cs.length := by omega
    subst e
    rw [List.drop_length] at p
    exact .inl ⟨by show (S cs).cps.size ≤ _; omega, hd acc H hA hn p⟩
theorem comp_range {n : Nat} (Pv : Nat → List V → Hp → Prop) (hz : n ≤ 1000000) (h0 : Pv 0 [] H) (hL0 : H L = some (.lst []))
    (hs : ∀ i acc H, i < n → H L = some (.lst acc) → acc.length ≤ i → i < 1000000 → Pv i acc H → g (.int i) (wipe σ vs) H fun σ2 H2 => wipe σ2 vs = wipe σ vs ∧ tt σ2 H2 fun b H3 =>
      if b = true then te σ2 H3 fun y H4 => ∃ acc, H4 L = some (.lst acc) ∧ acc.length < sizeLine ∧ CNx L (i + 1) (Pv (i + 1)) (upd H4 L (.lst (acc ++ [y]))) else CNx L (i + 1) (Pv (i + 1)) H3)
    (hd : ∀ acc H, H L = some (.lst acc) → acc.length ≤ n → Pv n acc H → Q (.ref L) H) : CompP (Itr 0 n) g tt te vs σ L Q H := by
  refine ⟨fun i m H => m = n - i ∧ i ≤ n ∧ CNx L i (Pv i) H, ⟨n, by simp, Nat.zero_le _, [], hL0, Nat.le_refl _, h0⟩, ?_⟩
  rintro i m H ⟨rfl, hi, acc, hA, hn, p⟩
  by_cases hlt : i < n
  · refine .inr ⟨hlt, CNx L (i + 1) (Pv (i + 1)), fun H' p' => ⟨n - (i + 1), by omega, rfl, hlt, p'⟩, fun x H' y => ?_⟩
    obtain ⟨e, e2⟩ := y
    subst e e2
    have e0 : (0 : Int) + (i : Int) = (i : Int) := Int.zero_add _
    rw [e0]
    exact hs i acc _ hlt hA hn (by omega) p
  · have e : i = n := by omega
    subst e
    exact .inl ⟨Nat.le_refl _, hd acc H hA hn p⟩
/-- a comprehension over a range whose element draws: each item as P says -/
theorem comp_draw {n j : Nat} {b : Addr} {G : Hp} (P : V → Hp → Prop) (mono : ∀ v G G', KT G G' → P v G → P v G') (hz : n ≤ 1000000) (B : Bx b G H) (hL : H L = none)
    (hw : ∀ x, wipe ((wipe σ vs).set j (some x)) vs = wipe σ vs)
    (hs : ∀ (i : Nat) G' H' (Q' : VK), i < n → Same G G' → Bx b G' H' → (∀ v G2 H2, Same G' G2 → Bx b G2 H2 → P v G2 → Q' v H2) → te ((wipe σ vs).set j (some (.int i))) H' Q')
    (hd : ∀ acc G' H', Same G G' → Bx b G' H' → G' L = some (.lst acc) → acc.length = n → (∀ v ∈ acc, P v G') → Q (.ref L) H') : CompP (Itr 0 n) (gName j) tYes te vs σ L Q (upd H L (.lst [])) := by
  have B0 := B.alloc (o := .lst []) hL
  have gl : G L = none := B.ex.free hL
  refine comp_range (fun i acc H' => acc.length = i ∧ ∃ G', Same G G' ∧ Bx b G' H' ∧ G' L = some (.lst acc) ∧ ∀ v ∈ acc, P v G') hz ⟨rfl, _, same_new gl, B0, upd_same, fun _ h => nomatch h⟩ upd_same ?_ ?_
  · rintro i acc H' hi hA hn hi2 ⟨hlen, G', s1, B1, hl, hp⟩
    show _ ∧ te _ _ _
    refine ⟨hw _, hs i G' H' _ hi s1 B1 fun v G2 H2 s2 B2 pv => ?_⟩
    have hl2 := s2 _ _ hl
    refine cput (B2.ex _ _ hl2) hn hi2 ⟨by rw [List.length_append, List.length_singleton, hlen], _, same_mut (s1.trans s2) gl, B2.put hl2, upd_same, fun u hu => ?_⟩
    have kt : KT G2 (upd G2 L (.lst (acc ++ [v]))) := KT.put hl2 (by intro xs q; cases q) (by intro o xs q; cases q)
    rcases List.mem_append.mp hu with h | h
    · exact mono _ _ _ kt (mono _ _ _ (KT.of s2) (hp u h))
    · rw [List.mem_singleton.mp h]
      exact mono _ _ _ kt pv
  · rintro acc H' hA hn ⟨hlen, G', s1, B1, hl, hp⟩
    exact hd acc G' H' s1 B1 hl hlen hp
/-- while, by a number that falls -/
theorem loop_while {c : TT} (Pv : Nat → L2.St → Hp → Prop) (m0 : Nat) (h0 : Pv m0 σ H)
    (hs : ∀ m σ H, Pv m σ H → c σ H fun b H1 => if b = true then ∃ m', m' < m ∧ tb { D with nx := Pv m', ct := Pv m', bk := D.nx } σ H1 else D.nx σ H1)
    (mono : ∀ σ H Q Q', (∀ b H1, Q b H1 → Q' b H1) → c σ H Q → c σ H Q') : tWhile c tb D σ H := by
  refine ⟨Pv, ⟨m0, h0⟩, fun m σ H p => ?_⟩
  refine mono σ H _ _ (fun b H1 q => ?_) (hs m σ H p)
  cases b with
  | true =>
    obtain ⟨m', l, q⟩ := q
    exact ⟨Pv m', fun σ' H' p' => ⟨m', l, p'⟩, q⟩
  | false => exact q
end
/-! ### tests whose answer is known -/
theorem vT {A B : Prop} (h : A) : ∃ c, V.bl true = V.bl c ∧ if c = true then A else B := ⟨true, rfl, by rw [if_pos rfl]; exact h⟩
theorem vF {A B : Prop} (h : B) : ∃ c, V.bl false = V.bl c ∧ if c = true then A else B := ⟨false, rfl, by rw [if_neg (fun z => nomatch z)]; exact h⟩
theorem nT {A B : Prop} (h : B) : ∃ c, V.bl true = V.bl c ∧ if c = false then A else B := ⟨true, rfl, by rw [if_neg (fun z => nomatch z)]; exact h⟩
theorem nF {A B : Prop} (h : A) : ∃ c, V.bl false = V.bl c ∧ if c = false then A else B := ⟨false, rfl, by rw [if_pos rfl]; exact h⟩
theorem start1_3 {a b c : Str} {u : V} : L2.start [a, b, c] [u] = [some u, none, none] := rfl
/-! ### slices -/
def cutL {α : Type} (l : List α) (lo hi : Option Int) : List α := (l.drop (HT.sIx l.length 0 lo)).take (HT.sIx l.length l.length hi - HT.sIx l.length 0 lo)
theorem cutS_S (l : Tx) (lo hi : Option Int) : cutS (S l) lo hi = S (cutL l lo hi) := by
  unfold cutS cutL
  rw [S_len]
theorem cutV_L (l : List V) (lo hi : Option Int) : cutV l lo hi = cutL l lo hi := rfl
theorem cutL_from {α : Type} (l : List α) (k : Nat) : cutL l (some (k : Int)) none = l.drop k := by
  unfold cutL
  rw [HT.sIx_nat, HT.sIx_none]
  by_cases h : k ≤ l.length
  · rw [Nat.min_eq_left h, List.take_of_length_le (by rw [List.length_drop]; omega)]
  · rw [Nat.min_eq_right (by omega), List.drop_length, List.drop_of_length_le (by omega), List.take_nil]
theorem cutL_to {α : Type} (l : List α) (k : Nat) : cutL l none (some (k : Int)) = l.take k := by
  unfold cutL
  rw [HT.sIx_nat, HT.sIx_none, List.drop_zero, Nat.sub_zero]
  by_cases h : k ≤ l.length
  · rw [Nat.min_eq_left h]
  · rw [Nat.min_eq_right (by omega), List.take_length, List.take_of_length_le (by omega)]
theorem cutL_mid {α : Type} (l : List α) (i j : Nat) : cutL l (some (i : Int)) (some (j : Int)) = (l.take j).drop i := by
  unfold cutL
  rw [HT.sIx_nat, HT.sIx_nat, List.drop_take]
  by_cases h : i ≤ l.length
  · rw [Nat.min_eq_left h]
    by_cases h2 : j ≤ l.length
    · rw [Nat.min_eq_left h2]
    · rw [Nat.min_eq_right (by omega), List.take_of_length_le (by rw [List.length_drop]; omega), List.take_of_length_le (by rw [List.length_drop]; omega)]
  · rw [Nat.min_eq_right (by omega : l.length ≤ i), List.drop_length, List.drop_of_length_le (by omega : l.length ≤ i)]
    simp
theorem sIx_neg {n d : Nat} {v : Int} (h : v < 0) : HT.sIx n d (some v) = (v + (n : Int)).toNat := by
  show (if v < 0 then _ else _) = _
  rw [if_pos h]
/-- l[:-1] -/
theorem cutL_init {α : Type} (l : List α) : cutL l none (some (-1)) = l.dropLast := by
  unfold cutL
  rw [sIx_neg (by decide), HT.sIx_none, List.drop_zero, Nat.sub_zero, List.dropLast_eq_take]
  congr 1
  omega
/-- l[-1:] -/
theorem cutL_last {α : Type} (l : List α) : cutL l (some (-1)) none = l.drop (l.length - 1) := by
  unfold cutL
  rw [sIx_neg (by decide), HT.sIx_none]
  have e : (-1 + (l.length : Int)).toNat = l.length - 1 := by omega
  rw [e, List.take_of_length_le (by rw [List.length_drop]; omega)]
/-- l[1:-1] -/
theorem cutL_in {α : Type} (l : List α) : cutL l (some 1) (some (-1)) = (l.drop 1).dropLast := by
  unfold cutL
  have e1 : HT.sIx l.length 0 (some 1) = min 1 l.length := HT.sIx_nat _ _ 1
  rw [sIx_neg (by decide), e1, List.dropLast_eq_take, List.length_drop]
  have e : (-1 + (l.length : Int)).toNat = l.length - 1 := by omega
  rw [e]
  cases l with
  | nil => rfl
  | cons a r =>
    have e2 : min 1 (a :: r).length = 1 := by rw [List.length_cons]; omega
    rw [e2]
theorem atI_neg {α : Type} (l : List α) (k : Nat) (h0 : 0 < k) (h : k ≤ l.length) : atI l (-(k : Int)) = l[l.length - k]? := by
  unfold atI ixN
  rw [if_neg (by omega), if_pos (by omega)]
  show l[(-(k : Int) + (l.length : Int)).toNat]? = _
  have e : (-(k : Int) + (l.length : Int)).toNat = l.length - k := by omega
  rw [e]
/-- while, by a number that falls, the test told -/
theorem loop_whileP {c : TT} {tb : TS} {D : Ends} {σ : L2.St} {H : Hp} (Pv : Nat → L2.St → Hp → Prop) (m0 : Nat) (h0 : Pv m0 σ H)
    (hs : ∀ m σ H, Pv m σ H → ∃ b, (∀ R : Bool → Hp → Prop, R b H → c σ H R) ∧ if b = true then ∃ m', m' < m ∧ tb { D with nx := Pv m', ct := Pv m', bk := D.nx } σ H else D.nx σ H) : tWhile c tb D σ H := by
  refine ⟨Pv, ⟨m0, h0⟩, fun m σ H p => ?_⟩
  obtain ⟨b, hb, q⟩ := hs m σ H p
  refine hb _ ?_
  cases b with
  | true =>
    obtain ⟨m', l, q⟩ := q
    exact ⟨Pv m', fun σ' H' p' => ⟨m', l, p'⟩, q⟩
  | false => exact q
theorem start2_3 {a b c : Str} {u v : V} : L2.start [a, b, c] [u, v] = [some u, some v, none] := rfl
theorem start1_8 {a b c d e f g h : Str} {u : V} : L2.start [a, b, c, d, e, f, g, h] [u] = [some u, none, none, none, none, none, none, none] := rfl
theorem start1_1 {a : Str} {u : V} : L2.start [a] [u] = [some u] := rfl
theorem start1_2 {a b : Str} {u : V} : L2.start [a, b] [u] = [some u, none] := rfl
theorem start1_4 {a b c d : Str} {u : V} : L2.start [a, b, c, d] [u] = [some u, none, none, none] := rfl
/-- an if whose test gives b and changes nothing -/
theorem if_pure {t : TT} {u v : TS} {D : Ends} {σ : L2.St} {H : Hp} (b : Bool) (ht : ∀ R : Bool → Hp → Prop, R b H → t σ H R) (h1 : b = true → u D σ H) (h2 : b = false → v D σ H) : tIfS t u v D σ H := by
  refine ht _ ?_
  cases b with
  | true => exact h1 rfl
  | false => exact h2 rfl
/-- .. and may make new objects -/
theorem if_new {t : TT} {u v : TS} {D : Ends} {σ : L2.St} {H : Hp} (b : Bool) (ht : ∀ R : Bool → Hp → Prop, (∀ H', Same H H' → R b H') → t σ H R) (h1 : b = true → ∀ H', Same H H' → u D σ H') (h2 : b = false → ∀ H', Same H H' → v D σ H') : tIfS t u v D σ H := by
  refine ht _ fun H' s => ?_
  cases b with
  | true => exact h1 rfl H' s
  | false => exact h2 rfl H' s
theorem inV_S (x : Tx) (ts : List Tx) : inV (.str (S x)) (ts.map fun t => .str (S t)) = ts.contains x := by
  induction ts with
  | nil => rfl
  | cons t r ih =>
    have e : inV (.str (S x)) ((t :: r).map fun t => .str (S t)) = ((S t == S x) || inV (.str (S x)) (r.map fun t => .str (S t))) := rfl
    rw [e, ih, SX.S_beq, List.contains_cons]
    congr 1
    rw [Bool.eq_iff_iff, beq_iff_eq, beq_iff_eq]
    exact eq_comm
theorem cutL_toneg {α : Type} (l : List α) (k : Nat) (h0 : 0 < k) : cutL l none (some (-(k : Int))) = l.take (l.length - k) := by
  unfold cutL
  rw [sIx_neg (by omega), HT.sIx_none, List.drop_zero, Nat.sub_zero]
  congr 1
  omega
theorem cutL_fromneg {α : Type} (l : List α) (k : Nat) (h0 : 0 < k) : cutL l (some (-(k : Int))) none = l.drop (l.length - k) := by
  unfold cutL
  rw [sIx_neg (by omega), HT.sIx_none]
  have e : (-(k : Int) + (l.length : Int)).toNat = l.length - k := by omega
  rw [e, List.take_of_length_le (by rw [List.length_drop]; omega)]
theorem cutL_negs {α : Type} (l : List α) (i j : Nat) (h0 : 0 < i) (h1 : 0 < j) : cutL l (some (-(i : Int))) (some (-(j : Int))) = (l.take (l.length - j)).drop (l.length - i) := by
  unfold cutL
  rw [sIx_neg (by omega), sIx_neg (by omega), List.drop_take]
  have e : (-(i : Int) + (l.length : Int)).toNat = l.length - i := by omega
  have e2 : (-(j : Int) + (l.length : Int)).toNat = l.length - j := by omega
  rw [e, e2]
theorem start2_4 {a b c d : Str} {u v : V} : L2.start [a, b, c, d] [u, v] = [some u, some v, none, none] := rfl
theorem start2_9 {a b c d e f g h i : Str} {u v : V} : L2.start [a, b, c, d, e, f, g, h, i] [u, v] = [some u, some v, none, none, none, none, none, none, none] := rfl
theorem in_tup {K : PySem.W.Frag} (neg : Bool) (x : Tx) (ts : List Tx) {H : Hp} {Q : V → Hp → Prop} {p : Addr} (hp : H p = none) (q : ∀ H', Same H H' → Q (.bl (if neg then !ts.contains x else ts.contains x)) H') : rIn K neg (.str (S x)) (.ref p) (upd H p (.tup (ts.map fun t => .str (S t)))) Q := by
  refine ⟨p, _, rfl, .inr (st_of upd_same), rfl, ?_, ?_⟩
  · rw [List.all_map]
    exact List.all_eq_true.mpr fun _ _ => rfl
  · rw [inV_S]
    exact q _ (same_new hp)
theorem in_lst {K : PySem.W.Frag} (neg : Bool) (x : Tx) (ts : List Tx) {H : Hp} {Q : V → Hp → Prop} {p : Addr} (hp : H p = none) (q : ∀ H', Same H H' → Q (.bl (if neg then !ts.contains x else ts.contains x)) H') : rIn K neg (.str (S x)) (.ref p) (upd H p (.lst (ts.map fun t => .str (S t)))) Q := by
  refine ⟨p, _, rfl, .inl (sq_of upd_same), rfl, ?_, ?_⟩
  · rw [List.all_map]
    exact List.all_eq_true.mpr fun _ _ => rfl
  · rw [inV_S]
    exact q _ (same_new hp)
theorem in_lst' {K : PySem.W.Frag} (neg : Bool) (x : Tx) (ts : List Tx) {H : Hp} {Q : V → Hp → Prop} {p : Addr} (hp : H p = some (.lst (ts.map fun t => .str (S t)))) (q : Q (.bl (if neg then !ts.contains x else ts.contains x)) H) : rIn K neg (.str (S x)) (.ref p) H Q := by
  refine ⟨p, _, rfl, .inl (sq_of hp), rfl, ?_, ?_⟩
  · rw [List.all_map]
    exact List.all_eq_true.mpr fun _ _ => rfl
  · rw [inV_S]
    exact q
theorem inK {X : Cx} {K : PySem.W.Frag} {c : Value → Value → Sem Value} {neg : Bool} (o : OpR X c (rIn X.K neg)) (e : X.K = K) : OpR X c (rIn K neg) := e ▸ o
theorem deepK {X : Cx} {K : PySem.W.Frag} {c : Value → Value → Sem Value} {r : PySem.W.Frag → R2} (o : OpR X c (r X.K)) (e : X.K = K) : OpR X c (r K) := e ▸ o
/-- an if whose ends meet again: M what stands then -/
theorem if_fin {t : TT} {u v : TS} {D : Ends} {σ : L2.St} {H : Hp} (M : L2.St → Hp → Prop) (fin : ∀ σ' H', M σ' H' → D.nx σ' H') (h : ∀ nx' : L2.St → Hp → Prop, (∀ σ' H', M σ' H' → nx' σ' H') → tIfS t u v { D with nx := nx' } σ H) : tIfS t u v D σ H := h D.nx fin
theorem start1_10 {a b c d e f g h i j : Str} {u : V} : L2.start [a, b, c, d, e, f, g, h, i, j] [u] = [some u, none, none, none, none, none, none, none, none, none] := rfl
def tyD : PyData → String
  | .none => "NoneType"
  | .bool _ => "bool"
  | .int _ => "int"
  | .str _ => "str"
  | .list _ => "list"
  | .tuple _ => "tuple"
  | .dict _ => "dict"
theorem ty_seq {K : PySem.W.Frag} {H : Hp} {a : Addr} {xs : List V} (h : SqL K H a xs) : TyX K H (.ref a) (.type "list") := by
  rcases h with (h | ⟨o, h⟩) | ⟨o, its, n, h, c, _⟩
  · exact .base (.lst h)
  · exact .base (.frz h)
  · exact .kList h c
theorem ty_tup {K : PySem.W.Frag} {H : Hp} {a : Addr} {xs : List V} (h : SqT K H a xs) : TyX K H (.ref a) (.type "tuple") := by
  rcases h with (h | ⟨o, h⟩) | ⟨o, its, n, h, c, _⟩
  · exact .base (.tup h)
  · exact .fTuple h
  · exact .kTuple h c
theorem ty_dp {K : PySem.W.Frag} {H : Hp} {v : V} {d : PyData} (h : Dp K H v d) : TyX K H v (.type (tyD d)) := by
  cases h with
  | non => exact .base .non
  | bl b => exact .base (.bl b)
  | int i => exact .base (.int i)
  | str x => exact .base (.str x)
  | lst h _ => exact ty_seq h
  | tup h _ => exact ty_tup h
/-- isinstance of such a value and a built-in class -/
theorem isi {K : PySem.W.Frag} {H : Hp} {v : V} {d : PyData} {n : String} {b : Bool} {Q : VK} (h : Dp K H v d) (e : kitB (tyD d) n = some b) (q : Q (.bl b) H) : rIsi K [v, .ty n] H Q :=
  ⟨v, .ty n, _, _, b, rfl, .ty n, ty_dp h, kit_ty e, q⟩
theorem asc_of {t : Tx} (h : t.all (fun c => decide (c < 128)) = true) : asc t := fun c hc => of_decide_eq_true (List.all_eq_true.mp h c hc)
theorem start3_3 {a b c : Str} {u v x : V} : L2.start [a, b, c] [u, v, x] = [some u, some v, some x] := rfl
theorem start4_4 {a b c d : Str} {u v x y : V} : L2.start [a, b, c, d] [u, v, x, y] = [some u, some v, some x, some y] := rfl
theorem start1_5 {a b c d e : Str} {u : V} : L2.start [a, b, c, d, e] [u] = [some u, none, none, none, none] := rfl
theorem start1_6 {a b c d e f : Str} {u : V} : L2.start [a, b, c, d, e, f] [u] = [some u, none, none, none, none, none] := rfl
theorem start1_7 {a b c d e f g : Str} {u : V} : L2.start [a, b, c, d, e, f, g] [u] = [some u, none, none, none, none, none, none] := rfl
theorem start2_2 {a b : Str} {u v : V} : L2.start [a, b] [u, v] = [some u, some v] := rfl
theorem start2_5 {a b c d e : Str} {u v : V} : L2.start [a, b, c, d, e] [u, v] = [some u, some v, none, none, none] := rfl
theorem ixK_list {X : Cx} {K : PySem.W.Frag} (e : X.K = K) : IxR X (rIxL K) := e ▸ ix_list
theorem ixK_tup {X : Cx} {K : PySem.W.Frag} (e : X.K = K) : IxR X (rIxT K) := e ▸ ix_tup
theorem ixK_seq {X : Cx} {K : PySem.W.Frag} (e : X.K = K) : IxR X (rIx K) := e ▸ ix_seq
theorem slK_list {X : Cx} {K : PySem.W.Frag} (e : X.K = K) : SlR X (rSlL K) := e ▸ sl_list
theorem pt_tint {X : Cx} {a : Expr} {ta : TE} (ha : PE X a ta) (he : ∀ whole, isTrue a X.env whole = (do let v ← whole; standAt a.pos; holding [v] (truthy v))) :
    PT X a (fun σ H Q => ta σ H fun x H' => ∃ i, x = .int i ∧ Q (i != 0) H') := by
  refine ⟨fun pins s σ H Q I h => ?_⟩
  exact isTrue_plain (thn (ha.run pins s σ H _ I h) fun v s1 ⟨x, H1, I1, r1, i, e, q⟩ => tru_ok pins s1 σ H1 x v Q I1 r1 ⟨_, by subst e; exact rfl, q⟩) (he _)
theorem eqvAll_refl : ∀ ds : List PyData, (∀ d ∈ ds, PyData.eqv d d = true) → PyData.eqvAll ds ds = true
  | [], _ => by simp [PyData.eqvAll]
  | d :: r, h => by
    simp only [PyData.eqvAll, Bool.and_eq_true]
    exact ⟨h d List.mem_cons_self, eqvAll_refl r fun e he => h e (List.mem_cons_of_mem _ he)⟩
theorem okD.eqv : ∀ {n : Nat} {d : PyData}, okD n d → PyData.eqv d d = true
  | 0, _, h => h.elim
  | _ + 1, .none, _ => by simp [PyData.eqv]
  | _ + 1, .bool _, _ => by simp [PyData.eqv]
  | _ + 1, .int _, _ => by simp [PyData.eqv]
  | _ + 1, .str _, _ => by simp [PyData.eqv]
  | n + 1, .list ds, h => by
    simp only [PyData.eqv]
    exact eqvAll_refl ds fun d hd => (h.2 d hd).eqv
  | n + 1, .tuple ds, h => by
    simp only [PyData.eqv]
    exact eqvAll_refl ds fun d hd => (h.2 d hd).eqv
  | _ + 1, .dict _, h => h.elim
theorem Bx.weak {b : Addr} {G G' H : Hp} (s : Same G G') (B : Bx b G' H) : Bx b G H := by
  obtain ⟨s0, gb, l, ns, t, gl, r⟩ := B
  exact ⟨s.trans s0, s.free gb, l, ns, t, s.free gl, r⟩
theorem Bx.same {b : Addr} {G H H' : Hp} (B : Bx b G H) (s : Same H H') : Bx b G H' := by
  obtain ⟨s0, gb, l, ns, t, gl, hb, hl, r⟩ := B
  exact ⟨s0.trans s, gb, l, ns, t, gl, s _ _ hb, s _ _ hl, r⟩
/-! ### the draws -/
abbrev s_l_take : Stmt := (top 12)
theorem sc_l_take : FnScope ["_law_box", "_law_many", "_law_number"] ["_law_box", "_law_many"] (defScope s_l_take) := ⟨rfl, rfl, rfl, by decide +kernel, rfl, by decide +kernel, by decide +kernel⟩

def sp_take : Sp := fun vs H Q _ => ∃ (b : Addr) (n : Int) (G : Hp), vs = [.ref b, .int n] ∧ 0 < n ∧ n < 1073741824 ∧ Bx b G H ∧ ∀ (r : Nat) H', (r : Int) < n → Bx b G H' → Q (.int r) H'
theorem ok_take {P : Program} {w : World} {K : PySem.W.Frag} {mg : Str → Option Value} {base : Heap} {f : Addr} {fd : FuncData} (F : FunS K "_law_take" s_l_take f fd) : FnOk P w K mg base CX0 1 f fd ["_law_box", "_law_many"] sp_take := by
  refine F.ok sc_l_take (fun vs H Q E h => ?_) (fun cdv A outer s H vs Q E hr h => ?_)
  · obtain ⟨b, n, G, rfl, _⟩ := h
    rfl
  obtain ⟨b, n, G, rfl, h0, h1, B, k'⟩ := h
  have k : ∀ (r : Int) H', 0 ≤ r → r < n → Bx b G H' → Q (.int r) H' := fun r H' h2 h3 B' => by
    have q := k' r.toNat H' (by omega) B'
    rw [Int.toNat_of_nonneg h2] at q
    exact q
  refine ⟨_, PSs.nox (pss_cons (ps_if (pt_cmpR (op_eqD hr.units) (pe_ix ix_list (pv 0) pe_int (fun _ _ => rfl)) (pe_lst pa_nil) (nomark _))
    (pss_cons (ps_asg (pe_op op_mod (pe_op op_mul (pe_ix ix_list (pv 0) pe_int (fun _ _ => rfl)) pe_int) pe_int) (pg_sub (pv 0) pe_int set_list))
  (pss_one (ps_ret (pe_op op_mod (pe_op op_fdiv (pe_ix ix_list (pv 0) pe_int (fun _ _ => rfl)) pe_int) (pv 1)))))
    pss_nil)
  (pss_cons (ps_set (i := 2) sc_l_take.nd rfl (.inl rfl) (pe_ix ix_list (pe_ix ix_list (pv 0) pe_int (fun _ _ => rfl)) pe_int (fun _ _ => rfl)))
  (pss_cons (ps_asg (pe_op op_fdivN (pv 2) (pv 1)) (pg_sub (pe_ix ix_list (pv 0) pe_int (fun _ _ => rfl)) pe_int set_list))
  (pss_cons (ps_if (PW.pt (pw_or (pt_cmpR op_eq (pe_ix ix_list (pe_ix ix_list (pv 0) pe_int (fun _ _ => rfl)) pe_int (fun _ _ => rfl)) pe_int (nomark _)) (pw_or1 (pt_cmpR op_eq (pe_ix ix_list (pe_ix ix_list (pv 0) pe_int (fun _ _ => rfl)) pe_int (fun _ _ => rfl)) (pe_un un_neg pe_int) (nomark _)))))
    (pss_one (ps_expr (pe_bm PySem.F.plainAttrs_list PySem.F.slot_list_pop PySem.F.type_list_pop mt_popAt (pe_ix ix_list (pv 0) pe_int (fun _ _ => rfl)) (pa_cons pe_int pa_nil))))
    pss_nil)
  (pss_one (ps_ret (pe_op op_mod (pv 2) (pv 1)))))))), ?_⟩
  obtain ⟨sm, gb, l, ns, s, gl, hb, hl, s0, s1⟩ := B
  simp only [tSeq, tAsg, tAnd, tOr, tNot, tTest, tB, tOp, tUn, tCB, tCons, tNil, tVar, tC, gName, rI0, rI, rU, rEq, rNe, rIxS, rIxL, rIxT, tRet, tRetN, tTup, tLst, tSl, tPart, tNoPart, rSlS, tIf, tIfS, tNext, tDrop, tCall, tBM, tBM0, tAndV, tOrV, tNotV, tM0, tM1, gSub, rSetL, sFld, gCons_eq, gNil_eq, tCallS_eq, tDGet, sDPut, tMeth, tMake, tFld, tChain, tIsN, tNotN,
  List.set_cons_zero, List.set_cons_succ, exists_eq_left', exists_eq_left, exists_eq, V.int.injEq, V.str.injEq, V.bl.injEq, V.ref.injEq, List.cons.injEq, and_true, true_and, List.getElem?_cons_zero, List.getElem?_cons_succ, Option.some.injEq, List.append_nil, exists_and_left, cxOf_K, false_and, and_false, exists_false, false_or, or_false, exists_eq', exists_const, sg_eq, S_eq, S_toList, S_ne, tFor_eq, tLc_eq, iList_eq, iTup_eq, iRng1_eq, iStr_eq, decide_eq_true_eq, Bool.not_eq_true', decide_eq_false_iff_not, if_true, if_false, Bool.false_eq_true, reduceCtorEq, Bool.true_eq_false, decide_true, decide_false, start2]
  have nlb : l ≠ b := ne_of hl hb (by
    intro q
    cases ns with
    | nil => cases q
    | cons n r => cases q)
  refine ⟨_, sq_of hb, _, rfl, Nat.zero_le _, ?_⟩
  (intro p np; generalize hqp : upd H p _ = H1; obtain ⟨e1, hp⟩ := al_ np hqp; clear hqp)
  have hb1 := e1 _ _ hb
  have hl1 := e1 _ _ hl
  refine ⟨_, _, .lst (sq_of hl1) (dp_ints ns), .lst (sq_of hp) .nil, shaped_ints ns, rfl, _, rfl, ?_⟩
  rw [eqv_nil]
  cases ns with
  | nil =>
    simp only [List.map_nil, List.isEmpty_nil, if_true]
    refine ⟨_, sq_of hb1, _, rfl, _, rfl, .inl ⟨by omega, by omega⟩, by decide, _, hb1, _, rfl, _, sq_of upd_same, _, rfl, _, rfl, ⟨by decide, by decide⟩, h0, ?_⟩
    refine k _ _ (Int.emod_nonneg _ (by omega)) (Int.emod_lt_of_pos _ h0) ⟨fun a u e => ?_, gb, l, [], _, gl, upd_same, ?_, Int.emod_nonneg _ (by decide), Int.emod_lt_of_pos _ (by decide)⟩
    · rw [upd_ne (ne_of_none e gb)]
      exact e1 _ _ (sm _ _ e)
    · rw [upd_ne nlb]
      exact hl1
  | cons z r =>
    simp only [List.map_cons, List.isEmpty_cons, Bool.false_eq_true, if_false] at hl1 ⊢
    refine ⟨_, sq_of hb1, _, rfl, _, rfl, _, sq_of hl1, _, at0 _ _, _, rfl, ⟨by omega, by omega⟩, ?_⟩
    refine ⟨_, sq_of hb1, _, rfl, _, rfl, _, hl1, _, ix0 _, ?_⟩
    have hb2 : upd H1 l (.lst (V.int (z.fdiv n) :: List.map V.int r)) b = some (.lst [.ref l, .int s]) := by
      rw [upd_ne nlb.symm]
      exact hb1
    have fr : ∀ (xs : List V) a u, G a = some u → upd H1 l (.lst xs) a = some u := fun xs a u e => by
      rw [upd_ne (ne_of_none e gl)]
      exact e1 _ _ (sm _ _ e)
    have fin : ∀ (ms : List Int) (H' : Hp), H' = upd H1 l (.lst (ms.map V.int)) → Q (.int (z % n)) H' := fun ms H' e => by
      subst e
      refine k _ _ (Int.emod_nonneg _ (by omega)) (Int.emod_lt_of_pos _ h0) ⟨fr _, gb, l, ms, s, gl, ?_, upd_same, s0, s1⟩
      rw [upd_ne nlb.symm]
      exact hb1
    refine ⟨_, sq_of hb2, _, rfl, _, rfl, _, sq_of upd_same, _, at0 _ _, rfl, ?_⟩
    simp only [List.set_cons_zero]
    refine ite2 (fun hz => ?_) (fun hz => ?_)
    · refine ⟨_, sq_of hb2, _, rfl, .inl ⟨rfl, _, sq_of upd_same⟩, l, _, 0, 0, _, rfl, rfl, upd_same, by decide, by decide, ?_, rfl, _, rfl, h0, fin r _ ?_⟩
      · simp [seqIndex?]
      · rw [upd_upd]
        rfl
    · refine ⟨_, sq_of hb2, _, rfl, _, rfl, _, sq_of upd_same, _, at0 _ _, rfl, ?_⟩
      refine ite2 (fun hz => ?_) (fun hz => ?_)
      · refine ⟨_, sq_of hb2, _, rfl, .inl ⟨rfl, _, sq_of upd_same⟩, l, _, 0, 0, _, rfl, rfl, upd_same, by decide, by decide, ?_, rfl, _, rfl, h0, fin r _ ?_⟩
        · simp [seqIndex?]
        · rw [upd_upd]
          rfl
      · exact ⟨_, rfl, h0, fin (z.fdiv n :: r) _ rfl⟩
theorem take_ {b : Addr} {n : Int} {G H : Hp} {Q : VK} {E : XK} (B : Bx b G H) (h0 : 0 < n) (h1 : n < 1073741824) (k : ∀ (r : Nat) H', (r : Int) < n → Bx b G H' → Q (.int r) H') : sp_take [.ref b, .int n] H Q E := ⟨b, n, G, rfl, h0, h1, B, k⟩
/-- "..".join(["signs"[take(box, m)] for k in range(n)]): the list of signs -/
theorem signs_draw {n j : Nat} {b : Addr} {G H : Hp} {te : TE} {vs : List Nat} {σ : L2.St} {L : Addr} {Q : VK} (p : Nat → Prop) (hz : n ≤ 1000000) (B : Bx b G H) (hL : H L = none)
    (hw : ∀ x, wipe ((wipe σ vs).set j (some x)) vs = wipe σ vs)
    (hs : ∀ (i : Nat) G' H' (Q' : VK), i < n → Same G G' → Bx b G' H' → (∀ c G2 H2, Same G' G2 → Bx b G2 H2 → p c → Q' (.str (S [c])) H2) → te ((wipe σ vs).set j (some (.int i))) H' Q')
    (hd : ∀ (cs : Tx) G' H', Same G G' → Bx b G' H' → G' L = some (.lst ((cs.map fun c => S [c]).map V.str)) → cs.length = n → (∀ c ∈ cs, p c) → Q (.ref L) H') : CompP (Itr 0 n) (gName j) tYes te vs σ L Q (upd H L (.lst [])) := by
  refine comp_draw (fun v _ => ∃ c, p c ∧ v = .str (S [c])) (fun _ _ _ _ h => h) hz B hL hw (fun i G' H' Q' hi s1 B1 q => hs i G' H' Q' hi s1 B1 fun c G2 H2 s2 B2 pc => q _ G2 H2 s2 B2 ⟨c, pc, rfl⟩) ?_
  intro acc G' H' s1 B1 hl hlen hp
  obtain ⟨cs, e, hc⟩ : ∃ cs : Tx, acc = (cs.map fun c => S [c]).map V.str ∧ ∀ c ∈ cs, p c := by
    clear hl hlen
    induction acc with
    | nil => exact ⟨[], rfl, fun _ h => nomatch h⟩
    | cons v r ih =>
      obtain ⟨cs, e, hc⟩ := ih fun v hv => hp v (List.mem_cons_of_mem _ hv)
      obtain ⟨c, pc, ev⟩ := hp v List.mem_cons_self
      refine ⟨c :: cs, by rw [e, ev]; rfl, fun d hd => ?_⟩
      rcases List.mem_cons.mp hd with h | h
      · rw [h]
        exact pc
      · exact hc d h
  subst e
  exact hd cs G' H' s1 B1 hl (by simpa using hlen) hc
theorem join_signs (cs : Tx) : Txt.join (S []) (cs.map fun c => S [c]) = S cs := by
  have e : (cs.map fun c => S [c]) = (cs.map fun c => [c]).map SX.S := by rw [List.map_map]; rfl
  rw [e]
  refine (SX.join_S [] _).trans (congrArg SX.S ?_)
  have h : ∀ (a : Tx), TL.joinL [] (a.map fun c => [c]) = a := fun a => by
    induction a with
    | nil => rfl
    | cons x r ih =>
      cases r with
      | nil => rfl
      | cons y t =>
        show [x] ++ ([] ++ TL.joinL [] ((y :: t).map fun c => [c])) = x :: y :: t
        rw [ih]
        rfl
  exact h cs
theorem signs_size (cs : Tx) (h : cs.length ≤ 1000000) : ((cs.map fun c => S [c]).map (·.length)).sum + (cs.map fun c => S [c]).length * (S []).length ≤ 16777216 := by
  have e : ((cs.map fun c => S [c]).map (·.length)).sum = cs.length := by
    clear h
    induction cs with
    | nil => rfl
    | cons c r ih =>
      rw [List.map_cons, List.map_cons, List.sum_cons, ih, S_len, List.length_cons]
      simp only [List.length_cons, List.length_nil]
      omega
  rw [e, S_len]
  simp only [List.length_nil, Nat.mul_zero, Nat.add_zero]
  omega
/-! ### two values that are alike: asked of the same data alone -/
def sp_alike (K : PySem.W.Frag) (n : Nat) : Sp := fun vs H Q _ => ∃ (v u : V) (d : PyData), vs = [v, u] ∧ Dp K H v d ∧ Dp K H u d ∧ okD n d ∧ Q (.bl true) H
abbrev s_l_alike : Stmt := (top 13)
theorem sc_l_alike : FnScope ["_law_found", "_law_due", "_law_k"] ["_law_found", "_law_due"] (defScope s_l_alike) := ⟨rfl, rfl, rfl, by decide +kernel, rfl, by decide +kernel, by decide +kernel⟩

section
variable {P : Program} {w : World} {K : PySem.W.Frag} {mg : Str → Option Value} {base : Heap}
theorem kb1 : kitB "bool" "bool" = some true := by decide +kernel
theorem kb2 : kitB "int" "bool" = some false := by decide +kernel
theorem kb3 : kitB "str" "bool" = some false := by decide +kernel
theorem kb4 : kitB "list" "bool" = some false := by decide +kernel
theorem kb5 : kitB "tuple" "bool" = some false := by decide +kernel
theorem ki2 : kitB "int" "int" = some true := by decide +kernel
theorem ki3 : kitB "str" "int" = some false := by decide +kernel
theorem ki4 : kitB "list" "int" = some false := by decide +kernel
theorem ki5 : kitB "tuple" "int" = some false := by decide +kernel
theorem ks3 : kitB "str" "str" = some true := by decide +kernel
theorem ks4 : kitB "list" "str" = some false := by decide +kernel
theorem ks5 : kitB "tuple" "str" = some false := by decide +kernel
theorem kt4 : kitB "list" "tuple" = some false := by decide +kernel
theorem kt5 : kitB "tuple" "tuple" = some true := by decide +kernel
theorem kl4 : kitB "list" "list" = some true := by decide +kernel
theorem kl5 : kitB "tuple" "list" = some false := by decide +kernel
theorem ok_alike_step {f : Addr} {fd : FuncData} {n : Nat} (F : FunS K "_law_alike" s_l_alike f fd) (b_bool : mg "bool" = none) (b_int : mg "int" = none) (b_isinstance : mg "isinstance" = none) (b_len : mg "len" = none) (b_list : mg "list" = none) (b_range : mg "range" = none) (b_str : mg "str" = none) (b_tuple : mg "tuple" = none) (c_l_alike : Cal P w K mg base CX0 n "_law_alike" (sp_alike K n)) : FnOk P w K mg base CX0 (n + 1) f fd ["_law_found", "_law_due"] (sp_alike K (n + 1)) := by
  refine F.ok sc_l_alike (fun vs H Q E h => ?_) (fun cdv A outer s H vs Q E hr h => ?_)
  · obtain ⟨v, u, d, rfl, _⟩ := h
    rfl
  obtain ⟨v, u, d, rfl, h1, h2, ok, k⟩ := h
  refine ⟨_, PSs.nox (pss_cons (ps_if (pt_cmpR op_isN (pv 1) pe_non (nomark _))
    (pss_one (ps_ret (pe_cmpR op_isN (pv 0) pe_non (nomark _))))
    pss_nil)
  (pss_cons (ps_if (pt_val (pe_callB call_isi (by rfl) b_isinstance (by decide +kernel) (pa_cons (pv 1) (pa_cons (pe_bltn (v := .ty "bool") (by rfl) b_bool (by decide +kernel) rfl) pa_nil))))
    (pss_one (ps_ret (pe_and (pe_callB call_isi (by rfl) b_isinstance (by decide +kernel) (pa_cons (pv 0) (pa_cons (pe_bltn (v := .ty "bool") (by rfl) b_bool (by decide +kernel) rfl) pa_nil))) (pe_one (pe_cmpR op_eq (pv 0) (pv 1) (nomark _))))))
    pss_nil)
  (pss_cons (ps_if (pt_val (pe_callB call_isi (by rfl) b_isinstance (by decide +kernel) (pa_cons (pv 1) (pa_cons (pe_bltn (v := .ty "int") (by rfl) b_int (by decide +kernel) rfl) pa_nil))))
    (pss_one (ps_ret (pe_and (pe_callB call_isi (by rfl) b_isinstance (by decide +kernel) (pa_cons (pv 0) (pa_cons (pe_bltn (v := .ty "int") (by rfl) b_int (by decide +kernel) rfl) pa_nil))) (pe_and (pe_not (pe_callB call_isi (by rfl) b_isinstance (by decide +kernel) (pa_cons (pv 0) (pa_cons (pe_bltn (v := .ty "bool") (by rfl) b_bool (by decide +kernel) rfl) pa_nil)))) (pe_one (pe_cmpR op_eq (pv 0) (pv 1) (nomark _)))))))
    pss_nil)
  (pss_cons (ps_if (pt_val (pe_callB call_isi (by rfl) b_isinstance (by decide +kernel) (pa_cons (pv 1) (pa_cons (pe_bltn (v := .ty "str") (by rfl) b_str (by decide +kernel) rfl) pa_nil))))
    (pss_one (ps_ret (pe_and (pe_callB call_isi (by rfl) b_isinstance (by decide +kernel) (pa_cons (pv 0) (pa_cons (pe_bltn (v := .ty "str") (by rfl) b_str (by decide +kernel) rfl) pa_nil))) (pe_one (pe_cmpR op_eq (pv 0) (pv 1) (nomark _))))))
    pss_nil)
  (pss_cons (ps_if (PW.pt (pw_or (pt_cmpR op_ne (pe_callB call_isi (by rfl) b_isinstance (by decide +kernel) (pa_cons (pv 1) (pa_cons (pe_bltn (v := .ty "tuple") (by rfl) b_tuple (by decide +kernel) rfl) pa_nil))) (pe_callB call_isi (by rfl) b_isinstance (by decide +kernel) (pa_cons (pv 0) (pa_cons (pe_bltn (v := .ty "tuple") (by rfl) b_tuple (by decide +kernel) rfl) pa_nil))) (nomark _)) (pw_or1 (pt_cmpR op_ne (pe_callB call_isi (by rfl) b_isinstance (by decide +kernel) (pa_cons (pv 1) (pa_cons (pe_bltn (v := .ty "list") (by rfl) b_list (by decide +kernel) rfl) pa_nil))) (pe_callB call_isi (by rfl) b_isinstance (by decide +kernel) (pa_cons (pv 0) (pa_cons (pe_bltn (v := .ty "list") (by rfl) b_list (by decide +kernel) rfl) pa_nil))) (nomark _)))))
    (pss_one (ps_ret pe_bl))
    pss_nil)
  (pss_cons (ps_if (pt_cmpR op_ne (pe_callB call_len_seq (by rfl) b_len PySem.boot_len (pa_cons (pv 0) pa_nil)) (pe_callB call_len_seq (by rfl) b_len PySem.boot_len (pa_cons (pv 1) pa_nil)) (nomark _))
    (pss_one (ps_ret pe_bl))
    pss_nil)
  (pss_cons (ps_for PassesOwn.never rfl (pi_range1 (by rfl) b_range (pa_cons (pe_callB call_len_seq (by rfl) b_len PySem.boot_len (pa_cons (pv 1) pa_nil)) pa_nil)) (pg_name (i := 2) sc_l_alike.nd rfl (.inl rfl))
    (pss_one (ps_if (pt_not (pt_val (pe_c c_l_alike hr (by first | decide | omega) (by rfl) (pa_cons (pe_ix ix_seq (pv 0) (pv 2) (fun _ _ => rfl)) (pa_cons (pe_ix ix_seq (pv 1) (pv 2) (fun _ _ => rfl)) pa_nil)))))
    (pss_one (ps_ret pe_bl))
    pss_nil)))
  (pss_one (ps_ret pe_bl))))))))), ?_⟩
  simp only [tSeq, tAsg, tAnd, tOr, tNot, tTest, tB, tOp, tUn, tCB, tCons, tNil, tVar, tC, gName, rI0, rI, rU, rEq, rNe, rIxS, rIxL, rIxT, tRet, tRetN, tTup, tLst, tSl, tPart, tNoPart, rSlS, tIf, tIfS, tNext, tDrop, tCall, tBM, tBM0, tAndV, tOrV, tNotV, tM0, tM1, gSub, rSetL, sFld, gCons_eq, gNil_eq, tCallS_eq, tDGet, sDPut, tMeth, tMake, tFld, tChain, tIsN, tNotN,
  List.set_cons_zero, List.set_cons_succ, exists_eq_left', exists_eq_left, exists_eq, V.int.injEq, V.str.injEq, V.bl.injEq, V.ref.injEq, List.cons.injEq, and_true, true_and, List.getElem?_cons_zero, List.getElem?_cons_succ, Option.some.injEq, List.append_nil, exists_and_left, cxOf_K, false_and, and_false, exists_false, false_or, or_false, exists_eq', exists_const, sg_eq, S_eq, S_toList, S_ne, tFor_eq, tLc_eq, iList_eq, iTup_eq, iRng1_eq, iStr_eq, decide_eq_true_eq, Bool.not_eq_true', decide_eq_false_iff_not, if_true, if_false, Bool.false_eq_true, reduceCtorEq, Bool.true_eq_false, decide_true, decide_false, start2]
  cases d with
  | none =>
    obtain rfl := dp_non h1
    obtain rfl := dp_non h2
    simp only [if_true, decide_true]
    exact k
  | bool c =>
    obtain rfl := dp_bl h1
    obtain rfl := dp_bl h2
    rw [if_neg (fun q => nomatch q)]
    refine isi h2 kb1 ?_
    refine vT ?_
    refine isi h1 kb1 ?_
    refine vT ⟨rfl, ?_⟩
    simp only [decide_true]
    exact k
  | int c =>
    obtain rfl := dp_int h1
    obtain rfl := dp_int h2
    rw [if_neg (fun q => nomatch q)]
    refine isi h2 kb2 ?_
    refine vF ?_
    refine isi h2 ki2 ?_
    refine vT ?_
    refine isi h1 ki2 ?_
    refine vT ?_
    refine isi h1 kb2 ?_
    refine nF ⟨rfl, ?_⟩
    simp only [decide_true]
    exact k
  | str c =>
    obtain rfl := dp_str h1
    obtain rfl := dp_str h2
    rw [if_neg (fun q => nomatch q)]
    refine isi h2 kb3 ?_
    refine vF ?_
    refine isi h2 ki3 ?_
    refine vF ?_
    refine isi h2 ks3 ?_
    refine vT ?_
    refine isi h1 ks3 ?_
    refine vT ⟨rfl, ?_⟩
    simp only [decide_true]
    exact k
  | dict _ => cases h1
  | list ds =>
    obtain ⟨a, xs, rfl, a1, a2⟩ := dp_lst h1
    obtain ⟨a', ys, rfl, b1, b2⟩ := dp_lst h2
    rw [if_neg (fun q => nomatch q)]
    refine isi h2 kb4 ?_
    refine vF ?_
    refine isi h2 ki4 ?_
    refine vF ?_
    refine isi h2 ks4 ?_
    refine vF ?_
    refine isi h2 kt4 ?_
    refine isi h1 kt4 ⟨rfl, ?_⟩
    rw [if_neg (fun q => q rfl)]
    refine isi h2 kl4 ?_
    refine isi h1 kl4 ⟨rfl, ?_⟩
    rw [if_neg (fun q => q rfl)]
    refine ⟨a, rfl, xs, .inl a1, a', rfl, ys, .inl b1, rfl, ?_⟩
    have el : xs.length = ys.length := (DpAll.len a2).trans (DpAll.len b2).symm
    rw [if_neg (fun q => q (by rw [el]))]
    have hz : ys.length ≤ 100000 := by
      rw [DpAll.len b2]
      exact ok.1
    refine ⟨a', rfl, ys, .inl b1, by omega, by omega, ?_⟩
    rw [Int.toNat_natCast]
    refine loop_range (n := ys.length) (fun i σ H' => (∃ z, σ = [some (.ref a), some (.ref a'), z]) ∧ H' = H) ⟨⟨_, rfl⟩, rfl⟩ ?_ ?_
    · rintro i σ H' hi ⟨⟨z, rfl⟩, rfl⟩
      have hi2 : i < ds.length := by rw [← DpAll.len b2]; exact hi
      have hd : ds[i]? = some ds[i] := List.getElem?_eq_getElem hi2
      obtain ⟨x, g1, g2⟩ := DpAll.get a2 hd
      obtain ⟨y, g3, g4⟩ := DpAll.get b2 hd
      simp only [tSeq, tAsg, tAnd, tOr, tNot, tTest, tB, tOp, tUn, tCB, tCons, tNil, tVar, tC, gName, rI0, rI, rU, rEq, rNe, rIxS, rIxL, rIxT, tRet, tRetN, tTup, tLst, tSl, tPart, tNoPart, rSlS, tIf, tIfS, tNext, tDrop, tCall, tBM, tBM0, tAndV, tOrV, tNotV, tM0, tM1, gSub, rSetL, sFld, gCons_eq, gNil_eq, tCallS_eq, tDGet, sDPut, tMeth, tMake, tFld, tChain, tIsN, tNotN,
  List.set_cons_zero, List.set_cons_succ, exists_eq_left', exists_eq_left, exists_eq, V.int.injEq, V.str.injEq, V.bl.injEq, V.ref.injEq, List.cons.injEq, and_true, true_and, List.getElem?_cons_zero, List.getElem?_cons_succ, Option.some.injEq, List.append_nil, exists_and_left, cxOf_K, false_and, and_false, exists_false, false_or, or_false, exists_eq', exists_const, sg_eq, S_eq, S_toList, S_ne, tFor_eq, tLc_eq, iList_eq, iTup_eq, iRng1_eq, iStr_eq, decide_eq_true_eq, Bool.not_eq_true', decide_eq_false_iff_not, if_true, if_false, Bool.false_eq_true, reduceCtorEq, Bool.true_eq_false, decide_true, decide_false]
      refine .inl ⟨a, xs, i, x, rfl, rfl, a1, atI_nat g1, .inl ⟨a', ys, i, y, rfl, rfl, b1, atI_nat g3, x, y, _, rfl, g2, g4, ok.2 _ (List.getElem_mem _), ?_⟩⟩
      exact nT rfl
    · rintro σ H' ⟨⟨z, rfl⟩, rfl⟩
      exact k
  | tuple ds =>
    obtain ⟨a, xs, rfl, a1, a2⟩ := dp_tup h1
    obtain ⟨a', ys, rfl, b1, b2⟩ := dp_tup h2
    rw [if_neg (fun q => nomatch q)]
    refine isi h2 kb5 ?_
    refine vF ?_
    refine isi h2 ki5 ?_
    refine vF ?_
    refine isi h2 ks5 ?_
    refine vF ?_
    refine isi h2 kt5 ?_
    refine isi h1 kt5 ⟨rfl, ?_⟩
    rw [if_neg (fun q => q rfl)]
    refine isi h2 kl5 ?_
    refine isi h1 kl5 ⟨rfl, ?_⟩
    rw [if_neg (fun q => q rfl)]
    refine ⟨a, rfl, xs, .inr a1, a', rfl, ys, .inr b1, rfl, ?_⟩
    have el : xs.length = ys.length := (DpAll.len a2).trans (DpAll.len b2).symm
    rw [if_neg (fun q => q (by rw [el]))]
    have hz : ys.length ≤ 100000 := by
      rw [DpAll.len b2]
      exact ok.1
    refine ⟨a', rfl, ys, .inr b1, by omega, by omega, ?_⟩
    rw [Int.toNat_natCast]
    refine loop_range (n := ys.length) (fun i σ H' => (∃ z, σ = [some (.ref a), some (.ref a'), z]) ∧ H' = H) ⟨⟨_, rfl⟩, rfl⟩ ?_ ?_
    · rintro i σ H' hi ⟨⟨z, rfl⟩, rfl⟩
      have hi2 : i < ds.length := by rw [← DpAll.len b2]; exact hi
      have hd : ds[i]? = some ds[i] := List.getElem?_eq_getElem hi2
      obtain ⟨x, g1, g2⟩ := DpAll.get a2 hd
      obtain ⟨y, g3, g4⟩ := DpAll.get b2 hd
      simp only [tSeq, tAsg, tAnd, tOr, tNot, tTest, tB, tOp, tUn, tCB, tCons, tNil, tVar, tC, gName, rI0, rI, rU, rEq, rNe, rIxS, rIxL, rIxT, tRet, tRetN, tTup, tLst, tSl, tPart, tNoPart, rSlS, tIf, tIfS, tNext, tDrop, tCall, tBM, tBM0, tAndV, tOrV, tNotV, tM0, tM1, gSub, rSetL, sFld, gCons_eq, gNil_eq, tCallS_eq, tDGet, sDPut, tMeth, tMake, tFld, tChain, tIsN, tNotN,
  List.set_cons_zero, List.set_cons_succ, exists_eq_left', exists_eq_left, exists_eq, V.int.injEq, V.str.injEq, V.bl.injEq, V.ref.injEq, List.cons.injEq, and_true, true_and, List.getElem?_cons_zero, List.getElem?_cons_succ, Option.some.injEq, List.append_nil, exists_and_left, cxOf_K, false_and, and_false, exists_false, false_or, or_false, exists_eq', exists_const, sg_eq, S_eq, S_toList, S_ne, tFor_eq, tLc_eq, iList_eq, iTup_eq, iRng1_eq, iStr_eq, decide_eq_true_eq, Bool.not_eq_true', decide_eq_false_iff_not, if_true, if_false, Bool.false_eq_true, reduceCtorEq, Bool.true_eq_false, decide_true, decide_false]
      refine .inr (.inl ⟨a, xs, i, x, rfl, rfl, a1, atI_nat g1, .inr (.inl ⟨a', ys, i, y, rfl, rfl, b1, atI_nat g3, x, y, _, rfl, g2, g4, ok.2 _ (List.getElem_mem _), ?_⟩)⟩)
      exact nT rfl
    · rintro σ H' ⟨⟨z, rfl⟩, rfl⟩
      exact k
theorem cal_alike {f : Addr} {fd : FuncData} (F : FunS K "_law_alike" s_l_alike f fd) (bn : Binds K fd ["_law_found", "_law_due"] []) (m : mg "_law_alike" = some (.ref f)) (b_bool : mg "bool" = none) (b_int : mg "int" = none) (b_isinstance : mg "isinstance" = none) (b_len : mg "len" = none) (b_list : mg "list" = none) (b_range : mg "range" = none) (b_str : mg "str" = none) (b_tuple : mg "tuple" = none) : ∀ n, Cal P w K mg base CX0 n "_law_alike" (sp_alike K n)
  | 0 => by
    refine ⟨f, fd, ["_law_found", "_law_due"], ⟨?_, ?_⟩, m, F.kp, bn⟩
    · rintro vs H Q E ⟨v, u, d, _, _, _, h, _⟩
      exact h.elim
    · rintro A outer s H args us vs Q E _ _ _ _ ⟨v, u, d, _, _, _, h, _⟩
      exact h.elim
  | n + 1 => ⟨f, fd, _, ok_alike_step F (b_bool := b_bool) (b_int := b_int) (b_isinstance := b_isinstance) (b_len := b_len) (b_list := b_list) (b_range := b_range) (b_str := b_str) (b_tuple := b_tuple) (cal_alike F bn m b_bool b_int b_isinstance b_len b_list b_range b_str b_tuple n), m, F.kp, bn⟩
end
abbrev s_l_begun : Stmt := (top 11)
theorem sc_l_begun : FnScope ["_law_script", "_law_stirred", "_law_cell"] ["_law_script"] (defScope s_l_begun) := ⟨rfl, rfl, rfl, by decide +kernel, rfl, by decide +kernel, by decide +kernel⟩

def sp_begun (K : PySem.W.Frag) : Sp := fun vs H Q _ => ∃ (a : Addr) (ns : List Int), vs = [.ref a] ∧ SqL K H a (ns.map V.int) ∧ ns.length ≤ 63 ∧ ∀ b G H', Same H G → Bx b G H' → Q (.ref b) H'
section
variable {P : Program} {w : World} {K : PySem.W.Frag} {mg : Str → Option Value} {base : Heap}
theorem ok_begun {f : Addr} {fd : FuncData} (F : FunS K "_law_begun" s_l_begun f fd) (b_int : mg "int" = none) (b_len : mg "len" = none) (b_list : mg "list" = none) : FnOk P w K mg base CX0 1 f fd ["_law_script"] (sp_begun K) := by
  refine F.ok sc_l_begun (fun vs H Q E h => ?_) (fun cdv A outer s H vs Q E hr h => ?_)
  · obtain ⟨a, ns, rfl, _⟩ := h
    rfl
  obtain ⟨a, ns, rfl, hS, hn, k⟩ := h
  refine ⟨_, PSs.nox (pss_cons (ps_set (i := 1) sc_l_begun.nd rfl (.inl rfl) pe_int)
  (pss_cons (ps_for PassesOwn.never rfl (pi_list (pv 0)) (pg_name (i := 2) sc_l_begun.nd rfl (.inl rfl))
    (pss_one (ps_set (i := 1) sc_l_begun.nd rfl (.inl rfl) (pe_op op_mod (pe_op op_add (pe_op op_add (pe_op op_mul (pv 1) pe_int) (pe_op op_mul (pv 2) pe_int)) pe_int) pe_int))))
  (pss_one (ps_ret (pe_lst (pa_cons (pe_callTy call_list_of (by rfl) b_list (by decide +kernel) (pa_cons (pv 0) pa_nil)) (pa_cons (pe_op op_mul (pv 1) (pe_callTy call_int1 (by rfl) b_int (by decide +kernel) (pa_cons (pe_cmpR op_gt (pe_callB call_len_seq (by rfl) b_len PySem.boot_len (pa_cons (pv 0) pa_nil)) pe_int (nomark _)) pa_nil))) pa_nil))))))), ?_⟩
  simp only [tSeq, tAsg, tAnd, tOr, tNot, tTest, tB, tOp, tUn, tCB, tCons, tNil, tVar, tC, gName, rI0, rI, rU, rEq, rNe, rIxS, rIxL, rIxT, tRet, tRetN, tTup, tLst, tSl, tPart, tNoPart, rSlS, tIf, tIfS, tNext, tDrop, tCall, tBM, tBM0, tAndV, tOrV, tNotV, tM0, tM1, gSub, rSetL, sFld, gCons_eq, gNil_eq, tCallS_eq, tDGet, sDPut, tMeth, tMake, tFld, tChain, tIsN, tNotN,
  List.set_cons_zero, List.set_cons_succ, exists_eq_left', exists_eq_left, exists_eq, V.int.injEq, V.str.injEq, V.bl.injEq, V.ref.injEq, List.cons.injEq, and_true, true_and, List.getElem?_cons_zero, List.getElem?_cons_succ, Option.some.injEq, List.append_nil, exists_and_left, cxOf_K, false_and, and_false, exists_false, false_or, or_false, exists_eq', exists_const, sg_eq, S_eq, S_toList, S_ne, tFor_eq, tLc_eq, iList_eq, iTup_eq, iRng1_eq, iStr_eq, decide_eq_true_eq, Bool.not_eq_true', decide_eq_false_iff_not, if_true, if_false, Bool.false_eq_true, reduceCtorEq, Bool.true_eq_false, decide_true, decide_false, start1_3]
  refine ⟨⟨_, hS⟩, loop_list (ns.map V.int) (fun r σ H' => ∃ (i : Int) (z : Option V) (ms : List Int), r = ms.map V.int ∧ σ = [some (.ref a), some (.int i), z] ∧ H' = H ∧ 0 ≤ i ∧ i < 2147483647) ⟨0, none, ns, rfl, rfl, rfl, by decide, by decide⟩ ?_ ?_ ?_⟩
  · rintro r σ H' ⟨i, z, ms, rfl, rfl, rfl, h0, h1⟩
    exact hS
  · rintro x r σ H' ⟨i, z, ms, e, rfl, rfl, h0, h1⟩
    cases ms with
    | nil => cases e
    | cons m ms =>
      simp only [List.map_cons, List.cons.injEq] at e
      obtain ⟨rfl, rfl⟩ := e
      simp only [tSeq, tAsg, tAnd, tOr, tNot, tTest, tB, tOp, tUn, tCB, tCons, tNil, tVar, tC, gName, rI0, rI, rU, rEq, rNe, rIxS, rIxL, rIxT, tRet, tRetN, tTup, tLst, tSl, tPart, tNoPart, rSlS, tIf, tIfS, tNext, tDrop, tCall, tBM, tBM0, tAndV, tOrV, tNotV, tM0, tM1, gSub, rSetL, sFld, gCons_eq, gNil_eq, tCallS_eq, tDGet, sDPut, tMeth, tMake, tFld, tChain, tIsN, tNotN,
  List.set_cons_zero, List.set_cons_succ, exists_eq_left', exists_eq_left, exists_eq, V.int.injEq, V.str.injEq, V.bl.injEq, V.ref.injEq, List.cons.injEq, and_true, true_and, List.getElem?_cons_zero, List.getElem?_cons_succ, Option.some.injEq, List.append_nil, exists_and_left, cxOf_K, false_and, and_false, exists_false, false_or, or_false, exists_eq', exists_const, sg_eq, S_eq, S_toList, S_ne, tFor_eq, tLc_eq, iList_eq, iTup_eq, iRng1_eq, iStr_eq, decide_eq_true_eq, Bool.not_eq_true', decide_eq_false_iff_not, if_true, if_false, Bool.false_eq_true, reduceCtorEq, Bool.true_eq_false, decide_true, decide_false]
      refine ⟨.inl ⟨by omega, by omega⟩, .inr ⟨by decide, by decide⟩, by decide, ?_⟩
      exact ⟨_, _, ms, rfl, ⟨rfl, rfl⟩, Int.emod_nonneg _ (by decide), Int.emod_lt_of_pos _ (by decide)⟩
  · rintro σ H' ⟨i, z, ms, e, rfl, rfl, h0, h1⟩
    simp only [tSeq, tAsg, tAnd, tOr, tNot, tTest, tB, tOp, tUn, tCB, tCons, tNil, tVar, tC, gName, rI0, rI, rU, rEq, rNe, rIxS, rIxL, rIxT, tRet, tRetN, tTup, tLst, tSl, tPart, tNoPart, rSlS, tIf, tIfS, tNext, tDrop, tCall, tBM, tBM0, tAndV, tOrV, tNotV, tM0, tM1, gSub, rSetL, sFld, gCons_eq, gNil_eq, tCallS_eq, tDGet, sDPut, tMeth, tMake, tFld, tChain, tIsN, tNotN,
  List.set_cons_zero, List.set_cons_succ, exists_eq_left', exists_eq_left, exists_eq, V.int.injEq, V.str.injEq, V.bl.injEq, V.ref.injEq, List.cons.injEq, and_true, true_and, List.getElem?_cons_zero, List.getElem?_cons_succ, Option.some.injEq, List.append_nil, exists_and_left, cxOf_K, false_and, and_false, exists_false, false_or, or_false, exists_eq', exists_const, sg_eq, S_eq, S_toList, S_ne, tFor_eq, tLc_eq, iList_eq, iTup_eq, iRng1_eq, iStr_eq, decide_eq_true_eq, Bool.not_eq_true', decide_eq_false_iff_not, if_true, if_false, Bool.false_eq_true, reduceCtorEq, Bool.true_eq_false, decide_true, decide_false]
    refine ⟨_, .inl hS, ?_⟩
    (intro l nl; generalize hql : upd H' l _ = H1; obtain ⟨e1, f1⟩ := al_ nl hql; clear hql)
    refine ⟨_, .inl (same_l e1 hS), ?_⟩
    refine ⟨.inl ⟨by omega, by omega⟩, (size_le (by simp only [List.length_cons, List.length_nil]; decide)), ?_⟩
    (intro b nb; generalize hqb : upd H1 b _ = H2; obtain ⟨e2, f2⟩ := al_ nb hqb; clear hqb)
    have nlb : l ≠ b := ne_of_none f1 nb
    refine k b H' H2 (Same.refl _) ⟨e1.trans e2, e1.free nb, l, ns, _, nl, f2, e2 _ _ f1, ?_, ?_⟩
    · split <;> omega
    · split <;> omega
end
/-! ### classes -/
abbrev FunM (K : PySem.W.Frag) (m qual : Str) (st : Stmt) (f : Addr) (fd : FuncData) : Prop := FunD K m qual (defArgs st) (defBody st) (defScope st) [] [] f fd
structure Met (P : Program) (w : World) (K : PySem.W.Frag) (mg : Str → Option Value) (base : Heap) (CX : CXT) (k : Nat) (C : Addr) (m : Str) (sp : Sp) : Prop where
  ex : ∃ (f : Addr) (fd : FuncData) (ps : List Str), Cls K C ∧ Meth K C m f ∧ FnOk P w K mg base CX k f fd ps sp ∧ Binds K fd ps []
structure Mak (P : Program) (w : World) (K : PySem.W.Frag) (mg : Str → Option Value) (base : Heap) (CX : CXT) (k : Nat) (x : Str) (C : Addr) (sp : Sp) : Prop where
  ex : ∃ (f : Addr) (fd : FuncData) (ps : List Str), Mk K C f ∧ FnOk P w K mg base CX k f fd ps sp ∧ mg x = some (.ref C) ∧ Binds K fd ps []
section
variable {X : Cx} {k j : Nat} {C : Addr} {x m : Str} {sp : Sp} {p pos apos : Pos} {e o : Expr} {es : List Expr} {ta : TE} {t : TA}
theorem pe_mk (c : Mak X.prog X.w X.K X.mg X.base CX0 k x C sp) (hr : Room j X.A) (hk : k + 1 ≤ j) (hg : Gl X x) (ha : PA X (e :: es) t)
    (hdb : (x == ("__debug__" : Str)) = false := by decide) (he : starEach (e :: es) X.env = (false, eval e X.env) :: starEach es X.env := by rfl) (hpl : (backTo pos (starEach es X.env)).any (·.1) = false := by rfl) :
    PE X (.Call (.Name x p) (e :: es) [] pos) (tMake C sp [] E0 t) := by
  obtain ⟨f, fd, ps, M, F, hm, b⟩ := c.ex
  exact pe_make M F (hr.mono hk) hg hm b .nil pass0 ha hdb he hpl
theorem pe_mk0 (c : Mak X.prog X.w X.K X.mg X.base CX0 k x C sp) (hr : Room j X.A) (hk : k + 1 ≤ j) (hg : Gl X x) (hdb : (x == ("__debug__" : Str)) = false := by decide) :
    PE X (.Call (.Name x p) [] [] pos) (tMake C sp [] E0 tNil) := by
  obtain ⟨f, fd, ps, M, F, hm, b⟩ := c.ex
  exact pe_make0 M F (hr.mono hk) hg hm b .nil pass0 hdb
theorem pe_mt {pl : Sem Bool} (c : Met X.prog X.w X.K X.mg X.base CX0 k C m sp) (hr : Room j X.A) (hk : k ≤ j) (he : PE X o ta) (ha : PA X (e :: es) t)
    (hst : starEach (e :: es) X.env = (false, eval e X.env) :: starEach es X.env := by rfl) (hpl : (backTo pos (starEach es X.env)).any (·.1) = false := by rfl)
    (ht : eval (.Call (.Attribute o m apos) (e :: es) [] pos) X.env = (do
      let ov ← eval o X.env
      standAt apos.atName
      let (f, first) ← holding [ov] (getMethod ov m pl)
      callWith pos f first (backTo pos (starEach (e :: es) X.env)) (backToKw pos (keywordEach [] X.env))) := by rfl) :
    PE X (.Call (.Attribute o m apos) (e :: es) [] pos) (tMeth C m sp [] E0 ta t) := by
  obtain ⟨f, fd, ps, hc, hm, F, b⟩ := c.ex
  exact pe_meth (pl := pl) he hc hm F (hr.mono hk) b .nil pass0 ha hst hpl ht
theorem pe_mt0 {pl : Sem Bool} (c : Met X.prog X.w X.K X.mg X.base CX0 k C m sp) (hr : Room j X.A) (hk : k ≤ j) (he : PE X o ta)
    (ht : eval (.Call (.Attribute o m apos) [] [] pos) X.env = (do
      let ov ← eval o X.env
      standAt apos.atName
      let (f, first) ← holding [ov] (getMethod ov m pl)
      callWith pos f first (backTo pos (starEach [] X.env)) (backToKw pos (keywordEach [] X.env))) := by rfl) :
    PE X (.Call (.Attribute o m apos) [] [] pos) (tMeth C m sp [] E0 ta tNil) := by
  obtain ⟨f, fd, ps, hc, hm, F, b⟩ := c.ex
  exact pe_meth0 (pl := pl) he hc hm F (hr.mono hk) b .nil pass0 ht
end
/-- an object of one's own: o at p, G all that was known ahead of it -/
def Ob (p : Addr) (o : HO) (G H : Hp) : Prop := Same G H ∧ G p = none ∧ H p = some o
theorem Ob.at {p : Addr} {o : HO} {G H : Hp} (h : Ob p o G H) : H p = some o := h.2.2
theorem Ob.put {p : Addr} {o o' : HO} {G H : Hp} (h : Ob p o G H) : Ob p o' G (upd H p o') := ⟨same_mut h.1 h.2.1, h.2.1, upd_same⟩
theorem Ob.same {p : Addr} {o : HO} {G H H' : Hp} (h : Ob p o G H) (s : Same H H') : Ob p o G H' := ⟨h.1.trans s, h.2.1, s _ _ h.2.2⟩
theorem Ob.weak {p : Addr} {o : HO} {G G' H : Hp} (s : Same G G') (h : Ob p o G' H) : Ob p o G H := ⟨s.trans h.1, s.free h.2.1, h.2.2⟩
theorem upd_upd {H : Hp} {p : Addr} {a b : HO} : upd (upd H p a) p b = upd H p b := by
  funext x
  by_cases h : x = p
  · subst h
    rw [upd_same, upd_same]
  · rw [upd_ne h, upd_ne h, upd_ne h]
theorem fld_iff {K : PySem.W.Frag} {H : Hp} {p C dx : Addr} {fs : List (Str × V)} {f : Str} {v : V} {Q : V → Prop} (hp : H p = some (.ins C dx fs)) (c : Cls K C) (n : NoAttr K C f) (l : fs.lookup f = some v) :
    (∃ C' dx' fs', H p = some (.ins C' dx' fs') ∧ Cls K C' ∧ NoAttr K C' f ∧ ∃ v', fs'.lookup f = some v' ∧ Q v') ↔ Q v := by
  constructor
  · rintro ⟨C', dx', fs', h, _, _, v', h2, q⟩
    rw [hp] at h
    cases h
    rw [l] at h2
    cases h2
    exact q
  · exact fun q => ⟨C, dx, fs, hp, c, n, v, l, q⟩
theorem fput_iff {K : PySem.W.Frag} {H : Hp} {p C dx : Addr} {fs : List (Str × V)} {f : Str} {R : Addr → Addr → List (Str × V) → Prop} (hp : H p = some (.ins C dx fs)) (c : Cls K C) (n : NoAttr K C f) (l : fs.length < 1000) :
    (∃ C' dx' fs', H p = some (.ins C' dx' fs') ∧ Cls K C' ∧ NoAttr K C' f ∧ fs'.length < 1000 ∧ R C' dx' fs') ↔ R C dx fs := by
  constructor
  · rintro ⟨C', dx', fs', h, _, _, _, q⟩
    rw [hp] at h
    cases h
    exact q
  · exact fun q => ⟨C, dx, fs, hp, c, n, l, q⟩
theorem meth_iff {H : Hp} {p C dx : Addr} {fs : List (Str × V)} {m : Str} {R : Prop} (hp : H p = some (.ins C dx fs)) (l : fs.lookup m = none) :
    (∃ dx' fs', H p = some (.ins C dx' fs') ∧ fs'.lookup m = none ∧ R) ↔ R := by
  constructor
  · rintro ⟨dx', fs', h, _, q⟩
    exact q
  · exact fun q => ⟨dx, fs, hp, l, q⟩
theorem kV_inj {a b : Key} (h : kV a = kV b) : a = b := by
  cases a <;> cases b <;> simp_all [kV]
theorem dget_iff {H : Hp} {q : Addr} {kvs : List (Key × V)} {k : Str} {v : V} {Q : V → Prop} (hp : H q = some (.dK kvs)) (l : valV kvs (.inr k) = some v) :
    (∃ v', DGet H q (.str k) (some v') ∧ Q v') ↔ Q v := by
  constructor
  · rintro ⟨v', h, qq⟩
    rcases h with ⟨kvs', k', h, ek, e⟩ | ⟨kvs', k', b, h, _⟩
    · have ek2 : k' = .inr k := kV_inj (ek.symm : kV k' = kV (.inr k))
      subst ek2
      rcases h with h | ⟨o, h⟩
      · rw [hp] at h
        cases h
        rw [l] at e
        cases e
        exact qq
      · rw [hp] at h
        cases h
    · rcases h with h | ⟨o, h⟩
      · rw [hp] at h
        cases h
      · rw [hp] at h
        cases h
  · exact fun qq => ⟨v, .inl ⟨kvs, .inr k, .inl hp, rfl, l.symm⟩, qq⟩
theorem dput_iff {H : Hp} {q : Addr} {kvs : List (Key × V)} {k : Str} {v : V} {R : Hp → Prop} (hp : H q = some (.dK kvs)) (l : kvs.length < sizeLine) :
    (∃ H', DPut H q (.str k) v H' ∧ R H') ↔ R (upd H q (.dK (putK kvs (.inr k) v))) := by
  constructor
  · rintro ⟨H', h, r⟩
    rcases h with ⟨kvs', k', h, ek, _, e⟩ | ⟨kvs', k', b, h, _⟩
    · have ek2 : k' = .inr k := kV_inj (ek.symm : kV k' = kV (.inr k))
      subst ek2
      rw [hp] at h
      cases h
      rw [e] at r
      exact r
    · rw [hp] at h
      cases h
  · exact fun r => ⟨_, .inl ⟨kvs, .inr k, hp, rfl, l, rfl⟩, r⟩
theorem dps_cons {K : PySem.W.Frag} {H : Hp} {xs : List V} {d : PyData} {ds : List PyData} (h : DpAll K H xs (d :: ds)) : ∃ v r, xs = v :: r ∧ Dp K H v d ∧ DpAll K H r ds := by
  cases h with
  | cons h1 h2 => exact ⟨_, _, rfl, h1, h2⟩
theorem dps_nil {K : PySem.W.Frag} {H : Hp} {xs : List V} (h : DpAll K H xs []) : xs = [] := by
  cases h
  rfl
theorem dps_str {K : PySem.W.Frag} {H : Hp} {xs : List V} {t : Str} {ds : List PyData} (h : DpAll K H xs (.str t :: ds)) : ∃ r, xs = .str t :: r ∧ DpAll K H r ds := by
  obtain ⟨v, r, e, h1, h2⟩ := dps_cons h
  rw [dp_str h1] at e
  exact ⟨r, e, h2⟩
theorem dps_bl {K : PySem.W.Frag} {H : Hp} {xs : List V} {t : Bool} {ds : List PyData} (h : DpAll K H xs (.bool t :: ds)) : ∃ r, xs = .bl t :: r ∧ DpAll K H r ds := by
  obtain ⟨v, r, e, h1, h2⟩ := dps_cons h
  rw [dp_bl h1] at e
  exact ⟨r, e, h2⟩
theorem sqt_of {K : PySem.W.Frag} {H G : Hp} {q : Addr} {xs : List V} (h : SqT K G q xs) (s : Same G H) : SqT K H q xs := same_t s h
theorem dp1 {K : PySem.W.Frag} {H : Hp} {v : V} {a : Str} (h : Dp K H v (.tuple [.str a])) : ∃ q, v = .ref q ∧ SqT K H q [.str a] := by
  obtain ⟨q, xs, e, hq, hx⟩ := dp_tup h
  obtain ⟨r, e1, hx⟩ := dps_str hx
  rw [e1, dps_nil hx] at hq
  exact ⟨q, e, hq⟩
theorem dp2 {K : PySem.W.Frag} {H : Hp} {v : V} {a b : Str} (h : Dp K H v (.tuple [.str a, .str b])) : ∃ q, v = .ref q ∧ SqT K H q [.str a, .str b] := by
  obtain ⟨q, xs, e, hq, hx⟩ := dp_tup h
  obtain ⟨r, e1, hx⟩ := dps_str hx
  obtain ⟨r2, e2, hx⟩ := dps_str hx
  rw [e1, e2, dps_nil hx] at hq
  exact ⟨q, e, hq⟩
theorem dp4 {K : PySem.W.Frag} {H : Hp} {v : V} {a b : Str} {c d : Bool} (h : Dp K H v (.tuple [.str a, .str b, .bool c, .bool d])) : ∃ q, v = .ref q ∧ SqT K H q [.str a, .str b, .bl c, .bl d] := by
  obtain ⟨q, xs, e, hq, hx⟩ := dp_tup h
  obtain ⟨r, e1, hx⟩ := dps_str hx
  obtain ⟨r2, e2, hx⟩ := dps_str hx
  obtain ⟨r3, e3, hx⟩ := dps_bl hx
  obtain ⟨r4, e4, hx⟩ := dps_bl hx
  rw [e1, e2, e3, e4, dps_nil hx] at hq
  exact ⟨q, e, hq⟩
/-! ### strokes -/
def strokeT (n : Nat) : Tx := ((List.range 10).filter fun k => n / 2 ^ k % 2 == 1).map (97 + ·)
def sp_stroke : Sp := fun vs H Q _ => ∃ (b : Addr) (G : Hp), vs = [.ref b] ∧ Bx b G H ∧ ∀ (n : Nat) H', 1 ≤ n → n ≤ 1023 → Bx b G H' → Q (.str (S (strokeT n))) H'
theorem stroke_ok : ∀ n, n < 1024 → 1 ≤ n → 1 ≤ (strokeT n).length ∧ (strokeT n).length ≤ 10 := by decide +kernel
theorem stroke_asc (n : Nat) : asc (strokeT n) := fun c hc => by
  obtain ⟨k, hk, rfl⟩ := List.mem_map.mp hc
  have := List.mem_range.mp (List.mem_filter.mp hk).1
  omega
theorem bits_at : ∀ i : Nat, i < 10 → atI [V.int 1, V.int 2, V.int 4, V.int 8, V.int 16, V.int 32, V.int 64, V.int 128, V.int 256, V.int 512] (i : Int) = some (.int ((2 ^ i : Nat) : Int)) ∧ atI [97, 98, 99, 100, 101, 102, 103, 104, 105, 106] (i : Int) = some (97 + i)
  | 0, _ | 1, _ | 2, _ | 3, _ | 4, _ | 5, _ | 6, _ | 7, _ | 8, _ | 9, _ => ⟨rfl, rfl⟩
  | n + 10, h => absurd h (by omega)
theorem CDivN_ok (n m : Nat) (h : 0 < m) (h2 : m < 1073741824) : CDivN (n : Int) (m : Int) := ⟨by omega, by omega⟩
theorem pow_lt10 : ∀ i, i < 10 → 2 ^ i < 1073741824 := by decide
theorem bit_test (n i : Nat) : ((n : Int).fdiv ((2 ^ i : Nat) : Int) % 2 != 0) = (n / 2 ^ i % 2 == 1) := by
  rw [Int.fdiv_eq_ediv_of_nonneg _ (Int.natCast_nonneg _), ← Int.natCast_ediv]
  generalize n / 2 ^ i = q
  rw [Bool.eq_iff_iff, bne_iff_ne, beq_iff_eq]
  omega
abbrev s_l_stroke : Stmt := (top 14)
theorem sc_l_stroke : FnScope ["_law_box", "_law_number", "_law_k"] ["_law_box"] (defScope s_l_stroke) := ⟨rfl, rfl, rfl, by decide +kernel, rfl, by decide +kernel, by decide +kernel⟩

section
variable {P : Program} {w : World} {K : PySem.W.Frag} {mg : Str → Option Value} {base : Heap}
theorem ok_stroke {f : Addr} {fd : FuncData} (F : FunS K "_law_stroke" s_l_stroke f fd) (b_range : mg "range" = none) (c_l_take : Cal P w K mg base CX0 1 "_law_take" sp_take) : FnOk P w K mg base CX0 2 f fd ["_law_box"] sp_stroke := by
  refine F.ok sc_l_stroke (fun vs H Q E h => ?_) (fun cdv A outer s H vs Q E hr h => ?_)
  · obtain ⟨b, G, rfl, _⟩ := h
    rfl
  obtain ⟨b, G, rfl, B, k⟩ := h
  refine ⟨_, PSs.nox (pss_cons (ps_set (i := 1) sc_l_stroke.nd rfl (.inr rfl) (pe_op op_add pe_int (pe_c c_l_take hr (by first | decide | omega) (by rfl) (pa_cons (pv 0) (pa_cons pe_int pa_nil)))))
  (pss_cons (ps_if (pt_cmpR op_gt (pe_c c_l_take hr (by first | decide | omega) (by rfl) (pa_cons (pv 0) (pa_cons pe_int pa_nil))) pe_int (nomark _))
    (pss_one (ps_set (i := 1) sc_l_stroke.nd rfl (.inr rfl) (pe_ix ix_list (pe_lst (pa_cons pe_int (pa_cons pe_int (pa_cons pe_int (pa_cons pe_int (pa_cons pe_int (pa_cons pe_int pa_nil))))))) (pe_c c_l_take hr (by first | decide | omega) (by rfl) (pa_cons (pv 0) (pa_cons pe_int pa_nil))) (fun _ _ => rfl))))
    pss_nil)
  (pss_one (ps_ret (pe_join pe_str (pe_lc (own := [("_law_k", 2)]) rfl sc_l_stroke.nd (pi_range1 (by rfl) b_range (pa_cons pe_int pa_nil)) (blkOk_by (N := ["_law_box", "_law_number", "_law_k"]) (sc := defScope s_l_stroke) (own := [("_law_k", 2)]) (by decide +kernel)) (fun _ _ _ _ _ => (pg_name (i := 2) sc_l_stroke.nd rfl (.inl rfl))) (fun _ _ _ _ _ => (pts_one (pt_tint (pe_op op_mod (pe_op op_fdivN (pv 1) (pe_ix (ixK_list (K := K) rfl) (pe_lst (pa_cons pe_int (pa_cons pe_int (pa_cons pe_int (pa_cons pe_int (pa_cons pe_int (pa_cons pe_int (pa_cons pe_int (pa_cons pe_int (pa_cons pe_int (pa_cons pe_int pa_nil))))))))))) (pv 2) (fun _ _ => rfl))) pe_int) (by intro _; rfl)))) (fun _ _ _ _ _ => (pe_ix ix_str pe_str (pv 2) (fun _ _ => rfl))))))))), ?_⟩
  simp only [tSeq, tAsg, tAnd, tOr, tNot, tTest, tB, tOp, tUn, tCB, tCons, tNil, tVar, tC, gName, rI0, rI, rU, rEq, rNe, rIxS, rIxL, rIxT, tRet, tRetN, tTup, tLst, tSl, tPart, tNoPart, rSlS, tIf, tNext, tDrop, tCall, tBM, tBM0, tAndV, tOrV, tNotV, tM0, tM1, gSub, rSetL, sFld, gCons_eq, gNil_eq, tCallS_eq, tDGet, sDPut, tMeth, tMake, tFld, tChain, tIsN, tNotN,
  List.set_cons_zero, List.set_cons_succ, exists_eq_left', exists_eq_left, exists_eq, V.int.injEq, V.str.injEq, V.bl.injEq, V.ref.injEq, List.cons.injEq, and_true, true_and, List.getElem?_cons_zero, List.getElem?_cons_succ, Option.some.injEq, List.append_nil, exists_and_left, cxOf_K, false_and, and_false, exists_false, false_or, or_false, exists_eq', exists_const, sg_eq, S_eq, S_toList, S_ne, tFor_eq, tLc_eq, iList_eq, iTup_eq, iRng1_eq, iStr_eq, decide_eq_true_eq, Bool.not_eq_true', decide_eq_false_iff_not, if_true, if_false, Bool.false_eq_true, reduceCtorEq, Bool.true_eq_false, decide_true, decide_false, lit_, lit_97_98_99_100_101_102_103_104_105_106, start1_3]
  refine take_ B (by decide) (by decide) fun r1 H1 hr1 B1 => ?_
  simp only [tSeq, tAsg, tAnd, tOr, tNot, tTest, tB, tOp, tUn, tCB, tCons, tNil, tVar, tC, gName, rI0, rI, rU, rEq, rNe, rIxS, rIxL, rIxT, tRet, tRetN, tTup, tLst, tSl, tPart, tNoPart, rSlS, tIf, tNext, tDrop, tCall, tBM, tBM0, tAndV, tOrV, tNotV, tM0, tM1, gSub, rSetL, sFld, gCons_eq, gNil_eq, tCallS_eq, tDGet, sDPut, tMeth, tMake, tFld, tChain, tIsN, tNotN,
  List.set_cons_zero, List.set_cons_succ, exists_eq_left', exists_eq_left, exists_eq, V.int.injEq, V.str.injEq, V.bl.injEq, V.ref.injEq, List.cons.injEq, and_true, true_and, List.getElem?_cons_zero, List.getElem?_cons_succ, Option.some.injEq, List.append_nil, exists_and_left, cxOf_K, false_and, and_false, exists_false, false_or, or_false, exists_eq', exists_const, sg_eq, S_eq, S_toList, S_ne, tFor_eq, tLc_eq, iList_eq, iTup_eq, iRng1_eq, iStr_eq, decide_eq_true_eq, Bool.not_eq_true', decide_eq_false_iff_not, if_true, if_false, Bool.false_eq_true, reduceCtorEq, Bool.true_eq_false, decide_true, decide_false]
  refine if_fin (fun σ' H' => ∃ n : Nat, σ' = [some (.ref b), some (.int (n : Int)), none] ∧ 1 ≤ n ∧ n ≤ 1023 ∧ Bx b G H') ?_ ?_
  rotate_left
  · intro nx fin
    simp only [tSeq, tAsg, tAnd, tOr, tNot, tTest, tB, tOp, tUn, tCB, tCons, tNil, tVar, tC, gName, rI0, rI, rU, rEq, rNe, rIxS, rIxL, rIxT, tRet, tRetN, tTup, tLst, tSl, tPart, tNoPart, rSlS, tIf, tIfS, tNext, tDrop, tCall, tBM, tBM0, tAndV, tOrV, tNotV, tM0, tM1, gSub, rSetL, sFld, gCons_eq, gNil_eq, tCallS_eq, tDGet, sDPut, tMeth, tMake, tFld, tChain, tIsN, tNotN,
  List.set_cons_zero, List.set_cons_succ, exists_eq_left', exists_eq_left, exists_eq, V.int.injEq, V.str.injEq, V.bl.injEq, V.ref.injEq, List.cons.injEq, and_true, true_and, List.getElem?_cons_zero, List.getElem?_cons_succ, Option.some.injEq, List.append_nil, exists_and_left, cxOf_K, false_and, and_false, exists_false, false_or, or_false, exists_eq', exists_const, sg_eq, S_eq, S_toList, S_ne, tFor_eq, tLc_eq, iList_eq, iTup_eq, iRng1_eq, iStr_eq, decide_eq_true_eq, Bool.not_eq_true', decide_eq_false_iff_not, if_true, if_false, Bool.false_eq_true, reduceCtorEq, Bool.true_eq_false, decide_true, decide_false]
    refine take_ B1 (by decide) (by decide) fun r2 H2 hr2 B2 => ?_
    simp only [tSeq, tAsg, tAnd, tOr, tNot, tTest, tB, tOp, tUn, tCB, tCons, tNil, tVar, tC, gName, rI0, rI, rU, rEq, rNe, rIxS, rIxL, rIxT, tRet, tRetN, tTup, tLst, tSl, tPart, tNoPart, rSlS, tIf, tIfS, tNext, tDrop, tCall, tBM, tBM0, tAndV, tOrV, tNotV, tM0, tM1, gSub, rSetL, sFld, gCons_eq, gNil_eq, tCallS_eq, tDGet, sDPut, tMeth, tMake, tFld, tChain, tIsN, tNotN,
  List.set_cons_zero, List.set_cons_succ, exists_eq_left', exists_eq_left, exists_eq, V.int.injEq, V.str.injEq, V.bl.injEq, V.ref.injEq, List.cons.injEq, and_true, true_and, List.getElem?_cons_zero, List.getElem?_cons_succ, Option.some.injEq, List.append_nil, exists_and_left, cxOf_K, false_and, and_false, exists_false, false_or, or_false, exists_eq', exists_const, sg_eq, S_eq, S_toList, S_ne, tFor_eq, tLc_eq, iList_eq, iTup_eq, iRng1_eq, iStr_eq, decide_eq_true_eq, Bool.not_eq_true', decide_eq_false_iff_not, if_true, if_false, Bool.false_eq_true, reduceCtorEq, Bool.true_eq_false, decide_true, decide_false]
    refine ite2 (fun _ => ⟨(size_le (by simp only [List.length_cons, List.length_nil]; decide)), ?_⟩) (fun _ => ?_)
    · (intro p np; generalize hqp : upd _ p _ = H3; obtain ⟨G3, gp, e3, B3, f3⟩ := alB_ B2 np hqp; clear hqp np)
      refine take_ B3 (by decide) (by decide) fun r3 H4 hr3 B4 => ⟨_, _, rfl, sq_of (B4.ex _ _ f3), ?_⟩
      match r3, hr3 with
      | 0, _ => exact ⟨_, rfl, fin _ _ ⟨1, rfl, by decide, by decide, B4.weak e3⟩⟩
      | 1, _ => exact ⟨_, rfl, fin _ _ ⟨2, rfl, by decide, by decide, B4.weak e3⟩⟩
      | 2, _ => exact ⟨_, rfl, fin _ _ ⟨4, rfl, by decide, by decide, B4.weak e3⟩⟩
      | 3, _ => exact ⟨_, rfl, fin _ _ ⟨3, rfl, by decide, by decide, B4.weak e3⟩⟩
      | 4, _ => exact ⟨_, rfl, fin _ _ ⟨5, rfl, by decide, by decide, B4.weak e3⟩⟩
      | 5, _ => exact ⟨_, rfl, fin _ _ ⟨512, rfl, by decide, by decide, B4.weak e3⟩⟩
      | n + 6, h => exact absurd h (by omega)
    · refine fin _ _ ⟨1 + r1, ?_, by omega, by omega, B2⟩
      rw [Int.natCast_add]
      rfl
  rintro σ H2 ⟨n, rfl, h1, h2, B2⟩
  simp only [tSeq, tAsg, tAnd, tOr, tNot, tTest, tB, tOp, tUn, tCB, tCons, tNil, tVar, tC, gName, rI0, rI, rU, rEq, rNe, rIxS, rIxL, rIxT, tRet, tRetN, tTup, tLst, tSl, tPart, tNoPart, rSlS, tIf, tIfS, tNext, tDrop, tCall, tBM, tBM0, tAndV, tOrV, tNotV, tM0, tM1, gSub, rSetL, sFld, gCons_eq, gNil_eq, tCallS_eq, tDGet, sDPut, tMeth, tMake, tFld, tChain, tIsN, tNotN,
  List.set_cons_zero, List.set_cons_succ, exists_eq_left', exists_eq_left, exists_eq, V.int.injEq, V.str.injEq, V.bl.injEq, V.ref.injEq, List.cons.injEq, and_true, true_and, List.getElem?_cons_zero, List.getElem?_cons_succ, Option.some.injEq, List.append_nil, exists_and_left, cxOf_K, false_and, and_false, exists_false, false_or, or_false, exists_eq', exists_const, sg_eq, S_eq, S_toList, S_ne, tFor_eq, tLc_eq, iList_eq, iTup_eq, iRng1_eq, iStr_eq, decide_eq_true_eq, Bool.not_eq_true', decide_eq_false_iff_not, if_true, if_false, Bool.false_eq_true, reduceCtorEq, Bool.true_eq_false, decide_true, decide_false]
  refine ⟨by decide, by decide, fun L hL => ?_⟩
  refine comp_range (n := 10) (fun i acc H4 => acc = (((List.range i).filter fun k => n / 2 ^ k % 2 == 1).map fun k => V.str (S [97 + k])) ∧ Same H2 H4) (by decide) ⟨rfl, same_new hL⟩ upd_same ?_ ?_
  · rintro i acc H4 hi hA hn hi2 ⟨rfl, s4⟩
    simp only [wipe, List.map_cons, List.map_nil, List.set_cons_succ, List.set_cons_zero, tSeq, tAsg, tAnd, tOr, tNot, tTest, tB, tOp, tUn, tCB, tCons, tNil, tVar, tC, gName, rI0, rI, rU, rEq, rNe, rIxS, rIxL, rIxT, tRet, tRetN, tTup, tLst, tSl, tPart, tNoPart, rSlS, tIf, tIfS, tNext, tDrop, tCall, tBM, tBM0, tAndV, tOrV, tNotV, tM0, tM1, gSub, rSetL, sFld, gCons_eq, gNil_eq, tCallS_eq, tDGet, sDPut, tMeth, tMake, tFld, tChain, tIsN, tNotN,
  List.set_cons_zero, List.set_cons_succ, exists_eq_left', exists_eq_left, exists_eq, V.int.injEq, V.str.injEq, V.bl.injEq, V.ref.injEq, List.cons.injEq, and_true, true_and, List.getElem?_cons_zero, List.getElem?_cons_succ, Option.some.injEq, List.append_nil, exists_and_left, cxOf_K, false_and, and_false, exists_false, false_or, or_false, exists_eq', exists_const, sg_eq, S_eq, S_toList, S_ne, tFor_eq, tLc_eq, iList_eq, iTup_eq, iRng1_eq, iStr_eq, decide_eq_true_eq, Bool.not_eq_true', decide_eq_false_iff_not, if_true, if_false, Bool.false_eq_true, reduceCtorEq, Bool.true_eq_false, decide_true, decide_false]
    refine ⟨(size_le (by simp only [List.length_cons, List.length_nil]; decide)), fun p np => ?_⟩
    obtain ⟨e1, e2⟩ : atI [V.int 1, V.int 2, V.int 4, V.int 8, V.int 16, V.int 32, V.int 64, V.int 128, V.int 256, V.int 512] (i : Int) = some (.int ((2 ^ i : Nat) : Int)) ∧ atI [97, 98, 99, 100, 101, 102, 103, 104, 105, 106] (i : Int) = some (97 + i) := bits_at i hi
    have hA2 : (upd H4 p (.lst [V.int 1, V.int 2, V.int 4, V.int 8, V.int 16, V.int 32, V.int 64, V.int 128, V.int 256, V.int 512])) L = some (.lst (((List.range i).filter fun k => n / 2 ^ k % 2 == 1).map fun k => V.str (S [97 + k]))) := by
      rw [upd_ne (ne_of_none hA np)]
      exact hA
    refine ⟨_, sq_of upd_same, _, e1, _, rfl, CDivN_ok _ _ (Nat.two_pow_pos i) (pow_lt10 i hi), by decide, ?_⟩
    rw [bit_test]
    have e3 : (List.range (i + 1)).filter (fun k => n / 2 ^ k % 2 == 1) = if n / 2 ^ i % 2 == 1 then (List.range i).filter (fun k => n / 2 ^ k % 2 == 1) ++ [i] else (List.range i).filter (fun k => n / 2 ^ k % 2 == 1) := by
      rw [List.range_succ, List.filter_append]
      cases hb : n / 2 ^ i % 2 == 1 <;> simp [hb]
    cases hb : n / 2 ^ i % 2 == 1 with
    | true =>
      rw [hb] at e3
      simp only [if_true] at e3 ⊢
      refine ⟨(size_le (by (try simp only [S_len, List.length_append, List.length_cons, List.length_nil]); omega)), _, e2, cput hA2 hn hi2 ⟨?_, same_mut (s4.trans (same_new np)) hL⟩⟩
      rw [e3, List.map_append]
      rfl
    | false =>
      rw [hb] at e3
      simp only [Bool.false_eq_true, if_false] at e3 ⊢
      refine cskip hA2 hn ⟨?_, s4.trans (same_new np)⟩
      rw [e3]
  · rintro acc H4 hA hn ⟨rfl, s4⟩
    have e1 : (((List.range 10).filter fun k => n / 2 ^ k % 2 == 1).map fun k => V.str (S [97 + k])) = ((strokeT n).map fun c => S [c]).map V.str := by
      rw [strokeT, List.map_map, List.map_map]
      rfl
    rw [e1] at hA
    have h10 := stroke_ok n (by omega) h1
    refine ⟨L, rfl, _, .inl (sq_of hA), signs_size _ (by omega), ?_⟩
    rw [join_signs]
    exact k n H4 h1 h2 (B2.same s4)
theorem stroke_ {b : Addr} {G H : Hp} {Q : VK} {E : XK} (B : Bx b G H) (k : ∀ (n : Nat) H', 1 ≤ n → n ≤ 1023 → Bx b G H' → Q (.str (S (strokeT n))) H') : sp_stroke [.ref b] H Q E := ⟨b, G, rfl, B, k⟩
end
/-! ### defs that raise -/
structure CalX (P : Program) (w : World) (K : PySem.W.Frag) (mg : Str → Option Value) (base : Heap) (k : Nat) (x : Str) (sp : Sp) : Prop where
  ex : ∃ (f : Addr) (fd : FuncData) (ps : List Str), FnOk P w K mg base (L2.CX P w) k f fd ps sp ∧ mg x = some (.ref f) ∧ PySem.W.keepIn K (.ref f) = true ∧ Binds K fd ps []
theorem calX_of {P : Program} {w : World} {K : PySem.W.Frag} {mg : Str → Option Value} {base : Heap} {k : Nat} {x : Str} {st : Stmt} {f : Addr} {fd : FuncData} {ps : List Str} {sp : Sp} (F : FunS K x st f fd) (ok : FnOk P w K mg base (L2.CX P w) k f fd ps sp) (m : mg x = some (.ref f)) (b : Binds K fd ps []) :
    CalX P w K mg base k x sp := ⟨f, fd, ps, ok, m, F.kp, b⟩
section
variable {X : Cx} {k j : Nat} {x : Str} {sp : Sp} {p pos : Pos} {e : Expr} {es : List Expr} {t : TA}
/-- a call of such a def in a def that raises, too: what leaves the one leaves the other -/
theorem pe_cx {E : XK} (c : CalX X.prog X.w X.K X.mg X.base k x sp) (hr : Room j X.A) (hk : k ≤ j) (hg : Gl X x) (hp : Passes (L2.CX X.prog X.w) X E) (ha : PA X (e :: es) t)
    (hdb : (x == ("__debug__" : Str)) = false := by decide) (he : starEach (e :: es) X.env = (false, eval e X.env) :: starEach es X.env := by rfl) (hpl : (backTo pos (starEach es X.env)).any (·.1) = false := by rfl) :
    PE X (.Call (.Name x p) (e :: es) [] pos) (tCall sp [] E t) := by
  obtain ⟨f, fd, ps, F, hm, kp, b⟩ := c.ex
  exact pe_call F (hr.mono hk) hg hm kp b .nil hp ha hdb he hpl
/-- .. in a try's body -/
theorem pe_cs {W : WX} (c : CalX X.prog X.w X.K X.mg X.base k x sp) (hr : Room j X.A) (hk : k ≤ j) (hg : Gl X x) (tk : Takes X W) (ha : PA X (e :: es) t)
    (hdb : (x == ("__debug__" : Str)) = false := by decide) (he : starEach (e :: es) X.env = (false, eval e X.env) :: starEach es X.env := by rfl) (hpl : (backTo pos (starEach es X.env)).any (·.1) = false := by rfl) :
    PE X (.Call (.Name x p) (e :: es) [] pos) (tCallS sp (WE W) t) := by
  obtain ⟨f, fd, ps, F, hm, kp, b⟩ := c.ex
  exact pe_callS F (hr.mono hk) hg hm kp b (fun σ => passAt tk σ) ha hdb he hpl
theorem pss_and {q : Prop} {body : List Stmt} {t : TS} (h : q → PSs X body t) : PSs X body (fun D σ H => q ∧ t D σ H) := ⟨fun pins s σ H D I w => (h w.1).run pins s σ H D I w.2⟩
theorem zc_of {cls : Value} {d : Option Addr} {oe : Obj} {D : Addr} (h : cls = .ref D ∧ d = none) (hz : Zc cls d oe) : Zc (.ref D) none oe := by
  obtain ⟨rfl, rfl⟩ := h
  exact hz
theorem isE_K {K : PySem.W.Frag} {a D : Addr} {oe : Obj} {pn : List (Addr × Obj)} (e : X.K = K) (C : ExcC K D) (hz : Zc (.ref D) none oe) (hf : ∃ vs, oe.data = .fields vs) : CallR (X.suite a ((a, oe) :: pn)) (.builtin "isinstance") (rIsE K D a) := by
  subst e
  exact call_isE C hz hf
end
open He in
def excCB (K : PySem.W.Frag) (D : Addr) : Bool := eqO (PySem.W.findIn K (.ref D) "__getattribute__") (some (some (.builtin "BaseException.__getattribute__"))) && (eqO (PySem.W.findIn K (.ref D) "__getattr__") (some none) && (decide (PySem.W.subIn K (.ref D) (.type "BaseException") = some true) &&
  (PySem.W.hasDictIn K D && (eqO (PySem.W.findIn K (.ref D) "__class__") (some (some (.builtin "object.__class__"))) && (eqO (PySem.W.specialIn K (.builtin "object.__class__") "__get__") (some (some (.builtin "getset_descriptor.__get__"))) &&
  (decide (PySem.W.takesIn K (.builtin "object.__class__") = some true) && decide (PySem.W.mroIn K D (.type "object") = some true)))))))
theorem excCB_ok {K : PySem.W.Frag} {D : Addr} (h : excCB K D = true) : ExcC K D := by
  obtain ⟨h1, h⟩ := He.ba h
  obtain ⟨h2, h⟩ := He.ba h
  obtain ⟨h3, h⟩ := He.ba h
  obtain ⟨h4, h⟩ := He.ba h
  obtain ⟨h5, h⟩ := He.ba h
  obtain ⟨h6, h⟩ := He.ba h
  obtain ⟨h7, h8⟩ := He.ba h
  exact ⟨He.eqO_ok h1, He.eqO_ok h2, of_decide_eq_true h3, h4, He.eqO_ok h5, He.eqO_ok h6, of_decide_eq_true h7, of_decide_eq_true h8⟩
structure ExF (K : PySem.W.Frag) (mg : Str → Option Value) : Prop where
  g_ChordError : mg "ChordError" = some (.ref (He.ga K "ChordError"))
  g_BadStroke : mg "BadStroke" = some (.ref (He.ga K "BadStroke"))
  x_BadStroke : PySem.W.excIn K (He.ga K "BadStroke") He.veBase "ValueError.__new__" = true
  k_BadStroke : PySem.W.keepIn K (.ref (He.ga K "BadStroke")) = true
  b_BadStroke : PySem.W.subIn K (.ref (He.ga K "BadStroke")) (.type "BaseException") = some true
  t_BadStroke : PySem.W.typeIn K (.ref (He.ga K "BadStroke")) = some (.type "type")
  c_BadStroke : ExcC K (He.ga K "BadStroke")
  m_ChordError : PySem.W.exmOne K (.ref (He.ga K "BadStroke")) (.ref (He.ga K "ChordError")) = some true
  q_ChordError : PySem.W.kitOne K (.ref (He.ga K "BadStroke")) (.ref (He.ga K "ChordError")) = some true
  m_BadStroke : PySem.W.exmOne K (.ref (He.ga K "BadStroke")) (.ref (He.ga K "BadStroke")) = some true
  q_BadStroke : PySem.W.kitOne K (.ref (He.ga K "BadStroke")) (.ref (He.ga K "BadStroke")) = some true
  q_ValueError : PySem.W.kitOne K (.ref (He.ga K "BadStroke")) (.type "ValueError") = some true
def exB (K : PySem.W.Frag) : Bool := excCB K (He.ga K "BadStroke") && (decide (PySem.W.kitOne K (.ref (He.ga K "BadStroke")) (.ref (He.ga K "ChordError")) = some true) && decide (PySem.W.kitOne K (.ref (He.ga K "BadStroke")) (.ref (He.ga K "BadStroke")) = some true) && decide (PySem.W.kitOne K (.ref (He.ga K "BadStroke")) (.type "ValueError") = some true))
/-! ### strokes: what the program says of texts -/
theorem op_strmul {X : Cx} : OpR X (binaryOp .Mult) (fun x y H Q => ∃ (z : Str) (i : Int), x = .str z ∧ y = .int i ∧ z.length ≤ 16 ∧ 0 ≤ i ∧ i ≤ 16 ∧ Q (.str (Txt.mul z i)) H) := by
  intro pins s σ H x y v u Q I rx ry h
  obtain ⟨z, i, rfl, rfl, h1, h2, h3, q⟩ := h
  obtain ⟨t, rfl⟩ := rx
  obtain ⟨t2, rfl⟩ := ry
  refine SB.mul (mulOk_of 16 16 h1 h3 (by omega) (by decide) (by decide)) fun t' k => ⟨.str (Txt.mul z i), H, I.tok _, ⟨_, rfl⟩, q⟩
def posK (c : Nat) : Int := if 97 ≤ c ∧ c ≤ 106 then (c : Int) - 97 else -1
abbrev keysT : Tx := [97, 98, 99, 100, 101, 102, 103, 104, 105, 106]
theorem find_pos : ∀ c, c < 128 → Txt.find (S keysT) (S [c]) = posK c := by decide +kernel
def incr : Int → Tx → Bool
  | _, [] => true
  | l, c :: r => decide (l < posK c) && incr (posK c) r
def strokeOk (t : Tx) : Bool := !t.isEmpty && incr (-1) t
theorem strokeOk_T : ∀ n, n < 1024 → 1 ≤ n → strokeOk (strokeT n) = true := by decide +kernel
abbrev CBad (K : PySem.W.Frag) : Value := .ref (He.ga K "BadStroke")
def sp_need (K : PySem.W.Frag) : Sp := fun vs H Q E => ∃ t : Tx, vs = [.str (S t)] ∧ asc t ∧ t.length ≤ 1000000 ∧ (strokeOk t = true → Q .non H) ∧ (strokeOk t = false → E (CBad K) none H)
abbrev s_need_stroke : Stmt := (top 6)
theorem sc_need_stroke : FnScope ["text", "last", "key", "place"] ["text"] (defScope s_need_stroke) := ⟨rfl, rfl, rfl, by decide +kernel, rfl, by decide +kernel, by decide +kernel⟩

section
variable {P : Program} {w : World} {K : PySem.W.Frag} {mg : Str → Option Value} {base : Heap}
theorem ok_need {f : Addr} {fd : FuncData} (F : FunS K "need_stroke" s_need_stroke f fd) (g_KEYS : ∃ u, mg "KEYS" = some u ∧ RelV (.str (S [97, 98, 99, 100, 101, 102, 103, 104, 105, 106])) u) (ex : ExF K mg) : FnOk P w K mg base (L2.CX P w) 1 f fd ["text"] (sp_need K) := by
  refine F.ok sc_need_stroke (fun vs H Q E h => ?_) (fun cdv A outer s H vs Q E hr h => ?_)
  · obtain ⟨t, rfl, _⟩ := h
    rfl
  obtain ⟨t, rfl, ha, hl, ky, kn⟩ := h
  refine ⟨_, (pss_cons (ps_set (i := 1) sc_need_stroke.nd rfl (.inl rfl) (pe_un un_neg pe_int))
  (pss_cons (ps_for (passes_of rfl) rfl (pi_str (pv 0)) (pg_name (i := 2) sc_need_stroke.nd rfl (.inl rfl))
    (pss_cons (ps_set (i := 3) sc_need_stroke.nd rfl (.inl rfl) (pe_m1 PySem.F.slot_str_find PySem.F.type_str_find mt_find (pe_gc (by rfl) g_KEYS) (pv 2)))
  (pss_cons (ps_if (pt_cmpR op_le (pv 3) (pv 1) (nomark _))
    (pss_one (ps_raise rfl (takes_of rfl rfl rfl rfl) (pmk_own PySem.F.excBase_ValueError ex.x_BadStroke ex.g_BadStroke ex.k_BadStroke (raises_own ex.b_BadStroke ex.t_BadStroke) rfl)))
    pss_nil)
  (pss_one (ps_set (i := 1) sc_need_stroke.nd rfl (.inl rfl) (pv 3))))))
  (pss_one (ps_if (pt_cmpR op_lt (pv 1) pe_int (nomark _))
    (pss_one (ps_raise rfl (takes_of rfl rfl rfl rfl) (pmk_own PySem.F.excBase_ValueError ex.x_BadStroke ex.g_BadStroke ex.k_BadStroke (raises_own ex.b_BadStroke ex.t_BadStroke) rfl)))
    pss_nil)))), ?_⟩
  simp only [tSeq, tAsg, tAnd, tOr, tNot, tTest, tB, tOp, tUn, tCB, tCons, tNil, tVar, tC, gName, rI0, rI, rU, rEq, rNe, rIxS, rIxL, rIxT, tRet, tRetN, tTup, tLst, tSl, tPart, tNoPart, rSlS, tIf, tNext, tDrop, tCall, tBM, tBM0, tAndV, tOrV, tNotV, tM0, tM1, gSub, rSetL, sFld, gCons_eq, gNil_eq, tCallS_eq, tDGet, sDPut, tMeth, tMake, tFld, tChain, tIsN, tNotN,
  List.set_cons_zero, List.set_cons_succ, exists_eq_left', exists_eq_left, exists_eq, V.int.injEq, V.str.injEq, V.bl.injEq, V.ref.injEq, List.cons.injEq, and_true, true_and, List.getElem?_cons_zero, List.getElem?_cons_succ, Option.some.injEq, List.append_nil, exists_and_left, cxOf_K, false_and, and_false, exists_false, false_or, or_false, exists_eq', exists_const, sg_eq, S_eq, S_toList, S_ne, tFor_eq, tLc_eq, iList_eq, iTup_eq, iRng1_eq, iStr_eq, decide_eq_true_eq, Bool.not_eq_true', decide_eq_false_iff_not, if_true, if_false, Bool.false_eq_true, reduceCtorEq, Bool.true_eq_false, decide_true, decide_false, lit_110_111_32_107_101_121, lit_110_111_32_115_116_114_111_107_101, start1_4]
  refine loop_str t (fun rest σ H' => H' = H ∧ ∃ (done : Tx) (l : Int) (y2 y3 : Option V), t = done ++ rest ∧ σ = [some (.str (S t)), some (.int l), y2, y3] ∧ (done = [] ∧ l = -1 ∨ done ≠ [] ∧ -1 < l) ∧ incr (-1) t = incr l rest) ⟨rfl, [], -1, none, none, rfl, rfl, .inl ⟨rfl, rfl⟩, rfl⟩ ?_ ?_
  · rintro c r σ _ ⟨rfl, done, l, y2, y3, e, rfl, hl2, hi⟩
    simp only [tSeq, tAsg, tAnd, tOr, tNot, tTest, tB, tOp, tUn, tCB, tCons, tNil, tVar, tC, gName, rI0, rI, rU, rEq, rNe, rIxS, rIxL, rIxT, tRet, tRetN, tTup, tLst, tSl, tPart, tNoPart, rSlS, tIf, tNext, tDrop, tCall, tBM, tBM0, tAndV, tOrV, tNotV, tM0, tM1, gSub, rSetL, sFld, gCons_eq, gNil_eq, tCallS_eq, tDGet, sDPut, tMeth, tMake, tFld, tChain, tIsN, tNotN,
  List.set_cons_zero, List.set_cons_succ, exists_eq_left', exists_eq_left, exists_eq, V.int.injEq, V.str.injEq, V.bl.injEq, V.ref.injEq, List.cons.injEq, and_true, true_and, List.getElem?_cons_zero, List.getElem?_cons_succ, Option.some.injEq, List.append_nil, exists_and_left, cxOf_K, false_and, and_false, exists_false, false_or, or_false, exists_eq', exists_const, sg_eq, S_eq, S_toList, S_ne, tFor_eq, tLc_eq, iList_eq, iTup_eq, iRng1_eq, iStr_eq, decide_eq_true_eq, Bool.not_eq_true', decide_eq_false_iff_not, if_true, if_false, Bool.false_eq_true, reduceCtorEq, Bool.true_eq_false, decide_true, decide_false]
    rw [find_pos c (ha c (by rw [e]; exact List.mem_append_right _ List.mem_cons_self))]
    simp only [tSeq, tAsg, tAnd, tOr, tNot, tTest, tB, tOp, tUn, tCB, tCons, tNil, tVar, tC, gName, rI0, rI, rU, rEq, rNe, rIxS, rIxL, rIxT, tRet, tRetN, tTup, tLst, tSl, tPart, tNoPart, rSlS, tIf, tIfS, tNext, tDrop, tCall, tBM, tBM0, tAndV, tOrV, tNotV, tM0, tM1, gSub, rSetL, sFld, gCons_eq, gNil_eq, tCallS_eq, tDGet, sDPut, tMeth, tMake, tFld, tChain, tIsN, tNotN,
  List.set_cons_zero, List.set_cons_succ, exists_eq_left', exists_eq_left, exists_eq, V.int.injEq, V.str.injEq, V.bl.injEq, V.ref.injEq, List.cons.injEq, and_true, true_and, List.getElem?_cons_zero, List.getElem?_cons_succ, Option.some.injEq, List.append_nil, exists_and_left, cxOf_K, false_and, and_false, exists_false, false_or, or_false, exists_eq', exists_const, sg_eq, S_eq, S_toList, S_ne, tFor_eq, tLc_eq, iList_eq, iTup_eq, iRng1_eq, iStr_eq, decide_eq_true_eq, Bool.not_eq_true', decide_eq_false_iff_not, if_true, if_false, Bool.false_eq_true, reduceCtorEq, Bool.true_eq_false, decide_true, decide_false]
    have ei : incr l (c :: r) = (decide (l < posK c) && incr (posK c) r) := rfl
    rw [ei] at hi
    have ne : strokeOk t = incr (-1) t := by
      cases t with
      | nil => exact absurd (congrArg List.length e) (by simp)
      | cons a b => rfl
    refine ite2 (fun h => kn ?_) (fun h => ⟨done ++ [c], by rw [e]; simp, posK c, _, _, ⟨rfl, rfl, rfl⟩, .inr ⟨by simp, ?_⟩, ?_⟩)
    · rw [ne, hi, decide_eq_false (by omega)]
      rfl
    · rcases hl2 with h2 | h2
      · omega
      · omega
    · rw [hi, decide_eq_true (by omega)]
      rfl
  · rintro σ _ ⟨rfl, done, l, y2, y3, e, rfl, hl2, hi⟩
    simp only [tSeq, tAsg, tAnd, tOr, tNot, tTest, tB, tOp, tUn, tCB, tCons, tNil, tVar, tC, gName, rI0, rI, rU, rEq, rNe, rIxS, rIxL, rIxT, tRet, tRetN, tTup, tLst, tSl, tPart, tNoPart, rSlS, tIf, tIfS, tNext, tDrop, tCall, tBM, tBM0, tAndV, tOrV, tNotV, tM0, tM1, gSub, rSetL, sFld, gCons_eq, gNil_eq, tCallS_eq, tDGet, sDPut, tMeth, tMake, tFld, tChain, tIsN, tNotN,
  List.set_cons_zero, List.set_cons_succ, exists_eq_left', exists_eq_left, exists_eq, V.int.injEq, V.str.injEq, V.bl.injEq, V.ref.injEq, List.cons.injEq, and_true, true_and, List.getElem?_cons_zero, List.getElem?_cons_succ, Option.some.injEq, List.append_nil, exists_and_left, cxOf_K, false_and, and_false, exists_false, false_or, or_false, exists_eq', exists_const, sg_eq, S_eq, S_toList, S_ne, tFor_eq, tLc_eq, iList_eq, iTup_eq, iRng1_eq, iStr_eq, decide_eq_true_eq, Bool.not_eq_true', decide_eq_false_iff_not, if_true, if_false, Bool.false_eq_true, reduceCtorEq, Bool.true_eq_false, decide_true, decide_false]
    rw [List.append_nil] at e
    subst e
    rcases hl2 with ⟨h1, h2⟩ | ⟨h1, h2⟩
    · subst h1
      rw [if_pos (by omega)]
      exact kn rfl
    · rw [if_neg (by omega)]
      refine ky ?_
      have e2 : strokeOk t = incr (-1) t := by
        cases t with
        | nil => exact absurd rfl h1
        | cons a b => rfl
      rw [e2, hi]
      rfl
/-- a row of texts, joined -/
def rowT (r : List Tx) : Tx := TL.joinL [47] r
def rowD (r : List Tx) : PyData := .tuple (r.map fun t => PyData.str (S t))
theorem join_row (r : List Tx) : Txt.join (S [47]) (r.map SX.S) = S (rowT r) := SX.join_S [47] r
theorem sum_len {m : Nat} : ∀ r : List Tx, (∀ t ∈ r, t.length ≤ m) → ((r.map SX.S).map (·.length)).sum ≤ m * r.length
  | [], _ => Nat.zero_le _
  | t :: r, h => by
    have ih := sum_len r fun x hx => h x (List.mem_cons_of_mem _ hx)
    have h1 := h t List.mem_cons_self
    rw [List.map_cons, List.map_cons, List.sum_cons, List.length_cons, Nat.mul_succ]
    have : (SX.S t).length = t.length := SX.S_len t
    omega
theorem rowT_len {m : Nat} : ∀ r : List Tx, (∀ t ∈ r, t.length ≤ m) → (rowT r).length ≤ (m + 1) * r.length
  | [], _ => Nat.zero_le _
  | [t], h => by
    have := h t List.mem_cons_self
    show t.length ≤ (m + 1) * 1
    omega
  | t :: u :: r, h => by
    have ih := rowT_len (u :: r) fun x hx => h x (List.mem_cons_of_mem _ hx)
    have h1 := h t List.mem_cons_self
    show (t ++ ([47] ++ rowT (u :: r))).length ≤ _
    rw [List.length_append, List.length_append, List.length_singleton, List.length_cons, Nat.mul_succ]
    omega
theorem rowT_asc : ∀ r : List Tx, (∀ t ∈ r, asc t) → asc (rowT r)
  | [], _ => fun c hc => nomatch hc
  | [t], h => h t List.mem_cons_self
  | t :: u :: r, h => asc_app (h t List.mem_cons_self) (asc_app (asc_of rfl) (rowT_asc (u :: r) fun x hx => h x (List.mem_cons_of_mem _ hx)))
theorem split_row {r : List Tx} (h1 : r ≠ []) (h2 : ∀ t ∈ r, 47 ∉ t) : Txt.split (S (rowT r)) (S [47]) = r.map SX.S := by
  rw [← join_row]
  refine TL.split_join (s := 47) (S := []) rfl (by decide +kernel) (fun e => h1 (List.map_eq_nil_iff.mp e)) fun p hp => ?_
  obtain ⟨t, ht, rfl⟩ := List.mem_map.mp hp
  exact h2 t ht
def sp_row_text (K : PySem.W.Frag) : Sp := fun vs H Q _ => ∃ (a : Addr) (r : List Tx), vs = [.ref a] ∧ SqT K H a ((r.map SX.S).map V.str) ∧ r.length ≤ 100 ∧ (∀ t ∈ r, t.length ≤ 100) ∧ Q (.str (S (rowT r))) H
abbrev s_row_text : Stmt := (top 8)
theorem sc_row_text : FnScope ["row"] ["row"] (defScope s_row_text) := ⟨rfl, rfl, rfl, by decide +kernel, rfl, by decide +kernel, by decide +kernel⟩

theorem ok_row_text {f : Addr} {fd : FuncData} (F : FunS K "row_text" s_row_text f fd)  : FnOk P w K mg base CX0 1 f fd ["row"] (sp_row_text K) := by
  refine F.ok sc_row_text (fun vs H Q E h => ?_) (fun cdv A outer s H vs Q E hr h => ?_)
  · obtain ⟨a, r, rfl, _⟩ := h
    rfl
  obtain ⟨a, r, rfl, hq, hl, ht, k⟩ := h
  refine ⟨_, PSs.nox (pss_one (ps_ret (pe_join pe_str (pv 0)))), ?_⟩
  simp only [tSeq, tAsg, tAnd, tOr, tNot, tTest, tB, tOp, tUn, tCB, tCons, tNil, tVar, tC, gName, rI0, rI, rU, rEq, rNe, rIxS, rIxL, rIxT, tRet, tRetN, tTup, tLst, tSl, tPart, tNoPart, rSlS, tIf, tIfS, tNext, tDrop, tCall, tBM, tBM0, tAndV, tOrV, tNotV, tM0, tM1, gSub, rSetL, sFld, gCons_eq, gNil_eq, tCallS_eq, tDGet, sDPut, tMeth, tMake, tFld, tChain, tIsN, tNotN,
  List.set_cons_zero, List.set_cons_succ, exists_eq_left', exists_eq_left, exists_eq, V.int.injEq, V.str.injEq, V.bl.injEq, V.ref.injEq, List.cons.injEq, and_true, true_and, List.getElem?_cons_zero, List.getElem?_cons_succ, Option.some.injEq, List.append_nil, exists_and_left, cxOf_K, false_and, and_false, exists_false, false_or, or_false, exists_eq', exists_const, sg_eq, S_eq, S_toList, S_ne, tFor_eq, tLc_eq, iList_eq, iTup_eq, iRng1_eq, iStr_eq, decide_eq_true_eq, Bool.not_eq_true', decide_eq_false_iff_not, if_true, if_false, Bool.false_eq_true, reduceCtorEq, Bool.true_eq_false, decide_true, decide_false, lit_47, start1_1]
  refine ⟨_, .inr hq, ?_, ?_⟩
  · have h1 := sum_len r ht
    have h3 : (S [47]).length = 1 := rfl
    rw [h3, List.length_map]
    omega
  · rw [join_row]
    exact k
def rowOk (r : List Tx) : Bool := decide (r.length ≤ 6) && r.all strokeOk
def sp_read_row (K : PySem.W.Frag) : Sp := fun vs H Q E => ∃ r : List Tx, vs = [.str (S (rowT r))] ∧ r ≠ [] ∧ (∀ t ∈ r, 47 ∉ t ∧ asc t ∧ t.length ≤ 100) ∧ r.length ≤ 100 ∧
  (rowOk r = true → ∀ q H', Same H H' → H' q = some (.tup ((r.map SX.S).map V.str)) → Q (.ref q) H') ∧ (rowOk r = false → ∀ H', Same H H' → E (CBad K) none H')
abbrev s_read_row : Stmt := (top 9)
theorem sc_read_row : FnScope ["text", "row", "stroke"] ["text"] (defScope s_read_row) := ⟨rfl, rfl, rfl, by decide +kernel, rfl, by decide +kernel, by decide +kernel⟩

theorem ok_read_row {f : Addr} {fd : FuncData} (F : FunS K "read_row" s_read_row f fd) (b_len : mg "len" = none) (b_tuple : mg "tuple" = none) (g_MOST_ROW : ∃ u, mg "MOST_ROW" = some u ∧ RelV (.int 6) u) (ex : ExF K mg) (c_need_stroke : CalX P w K mg base 1 "need_stroke" (sp_need K)) : FnOk P w K mg base (L2.CX P w) 2 f fd ["text"] (sp_read_row K) := by
  refine F.ok sc_read_row (fun vs H Q E h => ?_) (fun cdv A outer s H vs Q E hr h => ?_)
  · obtain ⟨t, rfl, _⟩ := h
    rfl
  obtain ⟨r, rfl, hne, ht, hl, ky, kn⟩ := h
  refine ⟨_, (pss_cons (ps_set (i := 1) sc_read_row.nd rfl (.inl rfl) (pe_callTy call_tuple_of (by rfl) b_tuple (by decide +kernel) (pa_cons (pe_split (pv 0) pe_str) pa_nil)))
  (pss_cons (ps_if (pt_cmpR op_gt (pe_callB call_len_seq (by rfl) b_len PySem.boot_len (pa_cons (pv 1) pa_nil)) (pe_gc (by rfl) g_MOST_ROW) (nomark _))
    (pss_one (ps_raise rfl (takes_of rfl rfl rfl rfl) (pmk_own PySem.F.excBase_ValueError ex.x_BadStroke ex.g_BadStroke ex.k_BadStroke (raises_own ex.b_BadStroke ex.t_BadStroke) rfl)))
    pss_nil)
  (pss_cons (ps_for (passes_of rfl) rfl (pi_tup (pv 1)) (pg_name (i := 2) sc_read_row.nd rfl (.inl rfl))
    (pss_one (ps_expr (pe_cx c_need_stroke hr (by first | decide | omega) (by rfl) (passes_call (takes_of rfl rfl rfl rfl) fun _ _ _ _ h => h) (pa_cons (pv 2) pa_nil)))))
  (pss_one (ps_ret (pv 1)))))), ?_⟩
  have e1 := split_row hne fun t h => (ht t h).1
  simp only [tSeq, tAsg, tAnd, tOr, tNot, tTest, tB, tOp, tUn, tCB, tCons, tNil, tVar, tC, gName, rI0, rI, rU, rEq, rNe, rIxS, rIxL, rIxT, tRet, tRetN, tTup, tLst, tSl, tPart, tNoPart, rSlS, tIf, tNext, tDrop, tCall, tBM, tBM0, tAndV, tOrV, tNotV, tM0, tM1, gSub, rSetL, sFld, gCons_eq, gNil_eq, tCallS_eq, tDGet, sDPut, tMeth, tMake, tFld, tChain, tIsN, tNotN,
  List.set_cons_zero, List.set_cons_succ, exists_eq_left', exists_eq_left, exists_eq, V.int.injEq, V.str.injEq, V.bl.injEq, V.ref.injEq, List.cons.injEq, and_true, true_and, List.getElem?_cons_zero, List.getElem?_cons_succ, Option.some.injEq, List.append_nil, exists_and_left, cxOf_K, false_and, and_false, exists_false, false_or, or_false, exists_eq', exists_const, sg_eq, S_eq, S_toList, S_ne, tFor_eq, tLc_eq, iList_eq, iTup_eq, iRng1_eq, iStr_eq, decide_eq_true_eq, Bool.not_eq_true', decide_eq_false_iff_not, if_true, if_false, Bool.false_eq_true, reduceCtorEq, Bool.true_eq_false, decide_true, decide_false, lit_47, lit_116_111_111_32_108_111_110_103_32_97_32_114_111_119, start1_3, e1, rNewStrs]
  have hlen := rowT_len r fun t h => (ht t h).2.2
  refine ⟨rfl, Nat.le_trans (by rw [S_len]; omega : (S (rowT r)).length + 2 ≤ 20000) (by decide), ?_⟩
  (intro p np; generalize hqp : upd H p _ = H2; obtain ⟨e2, f2⟩ := al_ np hqp; clear hqp)
  refine ⟨_, .inl ⟨sq_of f2, fun q nq => ?_⟩⟩
  generalize hq : upd H2 q _ = H3
  obtain ⟨e3, f3⟩ := al_ nq hq
  have hlen2 : ((r.map SX.S).map V.str).length = r.length := by rw [List.length_map, List.length_map]
  refine if_pure (!decide (r.length ≤ 6)) (fun R rr => ?_) (fun e => ?_) (fun e => ?_)
  · simp only [tSeq, tAsg, tAnd, tOr, tNot, tTest, tB, tOp, tUn, tCB, tCons, tNil, tVar, tC, gName, rI0, rI, rU, rEq, rNe, rIxS, rIxL, rIxT, tRet, tRetN, tTup, tLst, tSl, tPart, tNoPart, rSlS, tIf, tIfS, tNext, tDrop, tCall, tBM, tBM0, tAndV, tOrV, tNotV, tM0, tM1, gSub, rSetL, sFld, gCons_eq, gNil_eq, tCallS_eq, tDGet, sDPut, tMeth, tMake, tFld, tChain, tIsN, tNotN,
  List.set_cons_zero, List.set_cons_succ, exists_eq_left', exists_eq_left, exists_eq, V.int.injEq, V.str.injEq, V.bl.injEq, V.ref.injEq, List.cons.injEq, and_true, true_and, List.getElem?_cons_zero, List.getElem?_cons_succ, Option.some.injEq, List.append_nil, exists_and_left, cxOf_K, false_and, and_false, exists_false, false_or, or_false, exists_eq', exists_const, sg_eq, S_eq, S_toList, S_ne, tFor_eq, tLc_eq, iList_eq, iTup_eq, iRng1_eq, iStr_eq, decide_eq_true_eq, Bool.not_eq_true', decide_eq_false_iff_not, if_true, if_false, Bool.false_eq_true, reduceCtorEq, Bool.true_eq_false, decide_true, decide_false]
    refine ⟨_, .inr (st_of f3), ?_⟩
    rw [hlen2]
    have e9 : decide ((6 : Int) < (r.length : Int)) = !decide (r.length ≤ 6) := by
      rw [Bool.eq_iff_iff]
      simp
      omega
    rw [e9]
    exact rr
  · refine kn ?_ _ (e2.trans e3)
    have e' : decide (r.length ≤ 6) = false := by
      cases h : decide (r.length ≤ 6) with
      | false => rfl
      | true =>
        rw [h] at e
        cases e
    rw [rowOk, e']
    rfl
  have hl6 : decide (r.length ≤ 6) = true := by
    cases h : decide (r.length ≤ 6) with
    | true => rfl
    | false =>
      rw [h] at e
      cases e
  simp only [tSeq, tAsg, tAnd, tOr, tNot, tTest, tB, tOp, tUn, tCB, tCons, tNil, tVar, tC, gName, rI0, rI, rU, rEq, rNe, rIxS, rIxL, rIxT, tRet, tRetN, tTup, tLst, tSl, tPart, tNoPart, rSlS, tIf, tNext, tDrop, tCall, tBM, tBM0, tAndV, tOrV, tNotV, tM0, tM1, gSub, rSetL, sFld, gCons_eq, gNil_eq, tCallS_eq, tDGet, sDPut, tMeth, tMake, tFld, tChain, tIsN, tNotN,
  List.set_cons_zero, List.set_cons_succ, exists_eq_left', exists_eq_left, exists_eq, V.int.injEq, V.str.injEq, V.bl.injEq, V.ref.injEq, List.cons.injEq, and_true, true_and, List.getElem?_cons_zero, List.getElem?_cons_succ, Option.some.injEq, List.append_nil, exists_and_left, cxOf_K, false_and, and_false, exists_false, false_or, or_false, exists_eq', exists_const, sg_eq, S_eq, S_toList, S_ne, tFor_eq, tLc_eq, iList_eq, iTup_eq, iRng1_eq, iStr_eq, decide_eq_true_eq, Bool.not_eq_true', decide_eq_false_iff_not, if_true, if_false, Bool.false_eq_true, reduceCtorEq, Bool.true_eq_false, decide_true, decide_false]
  refine ⟨⟨_, st_of f3⟩, ?_⟩
  refine loop_tup _ (fun rest σ H' => H' = H3 ∧ ∃ (done todo : List Tx) (y2 : Option V), r = done ++ todo ∧ rest = (todo.map SX.S).map V.str ∧ σ = [some (.str (S (rowT r))), some (.ref q), y2] ∧ done.all strokeOk = true) ⟨rfl, [], r, none, rfl, rfl, rfl, rfl⟩ (fun r σ H' ⟨h, _⟩ => by rw [h]; exact st_of f3) ?_ ?_
  · rintro x rest σ _ ⟨rfl, done, todo, y2, e, er, rfl, hd⟩
    cases todo with
    | nil => cases er
    | cons t todo =>
      cases er
      have hm : t ∈ r := by rw [e]; exact List.mem_append_right _ List.mem_cons_self
      obtain ⟨_, h2, h3⟩ := ht t hm
      simp only [tSeq, tAsg, tAnd, tOr, tNot, tTest, tB, tOp, tUn, tCB, tCons, tNil, tVar, tC, gName, rI0, rI, rU, rEq, rNe, rIxS, rIxL, rIxT, tRet, tRetN, tTup, tLst, tSl, tPart, tNoPart, rSlS, tIf, tNext, tDrop, tCall, tBM, tBM0, tAndV, tOrV, tNotV, tM0, tM1, gSub, rSetL, sFld, gCons_eq, gNil_eq, tCallS_eq, tDGet, sDPut, tMeth, tMake, tFld, tChain, tIsN, tNotN,
  List.set_cons_zero, List.set_cons_succ, exists_eq_left', exists_eq_left, exists_eq, V.int.injEq, V.str.injEq, V.bl.injEq, V.ref.injEq, List.cons.injEq, and_true, true_and, List.getElem?_cons_zero, List.getElem?_cons_succ, Option.some.injEq, List.append_nil, exists_and_left, cxOf_K, false_and, and_false, exists_false, false_or, or_false, exists_eq', exists_const, sg_eq, S_eq, S_toList, S_ne, tFor_eq, tLc_eq, iList_eq, iTup_eq, iRng1_eq, iStr_eq, decide_eq_true_eq, Bool.not_eq_true', decide_eq_false_iff_not, if_true, if_false, Bool.false_eq_true, reduceCtorEq, Bool.true_eq_false, decide_true, decide_false]
      refine ⟨t, rfl, h2, by omega, fun ok => ⟨rfl, done ++ [t], todo, by rw [e]; simp, rfl, by rw [List.all_append, hd]; simp [ok]⟩, fun bad => kn ?_ _ (e2.trans e3)⟩
      have : r.all strokeOk = false := by
        rw [List.all_eq_false]
        exact ⟨t, hm, by rw [bad]; decide⟩
      rw [rowOk, this, Bool.and_false]
  · rintro σ _ ⟨rfl, done, todo, y2, e, er, rfl, hd⟩
    cases todo with
    | cons t todo => cases er
    | nil =>
      rw [List.append_nil] at e
      subst e
      simp only [tSeq, tAsg, tAnd, tOr, tNot, tTest, tB, tOp, tUn, tCB, tCons, tNil, tVar, tC, gName, rI0, rI, rU, rEq, rNe, rIxS, rIxL, rIxT, tRet, tRetN, tTup, tLst, tSl, tPart, tNoPart, rSlS, tIf, tIfS, tNext, tDrop, tCall, tBM, tBM0, tAndV, tOrV, tNotV, tM0, tM1, gSub, rSetL, sFld, gCons_eq, gNil_eq, tCallS_eq, tDGet, sDPut, tMeth, tMake, tFld, tChain, tIsN, tNotN,
  List.set_cons_zero, List.set_cons_succ, exists_eq_left', exists_eq_left, exists_eq, V.int.injEq, V.str.injEq, V.bl.injEq, V.ref.injEq, List.cons.injEq, and_true, true_and, List.getElem?_cons_zero, List.getElem?_cons_succ, Option.some.injEq, List.append_nil, exists_and_left, cxOf_K, false_and, and_false, exists_false, false_or, or_false, exists_eq', exists_const, sg_eq, S_eq, S_toList, S_ne, tFor_eq, tLc_eq, iList_eq, iTup_eq, iRng1_eq, iStr_eq, decide_eq_true_eq, Bool.not_eq_true', decide_eq_false_iff_not, if_true, if_false, Bool.false_eq_true, reduceCtorEq, Bool.true_eq_false, decide_true, decide_false]
      exact ky (by rw [rowOk, hl6, hd]; rfl) q _ (e2.trans e3) f3
def pressT (ts : List Tx) : Tx := keysT.filter fun c => ts.contains [c]
def goodK (t : Tx) : Bool := match t with
  | [c] => decide (posK c ≠ -1)
  | _ => false
def pressOk (ts : List Tx) : Bool := !(pressT ts).isEmpty && ts.all goodK
theorem occ1 : ∀ c, c < 128 → (Builtin.Str.occurrences (S keysT) (S [c]) 0 (S keysT).length 1).isEmpty = decide (posK c = -1) := by decide +kernel
def sp_pressed (K : PySem.W.Frag) : Sp := fun vs H Q E => ∃ (a : Addr) (ts : List Tx), vs = [.ref a] ∧ SqL K H a (ts.map fun t => .str (S t)) ∧ (∀ t ∈ ts, asc t ∧ t.length ≤ 100) ∧ ts.length ≤ 100 ∧
  (pressOk ts = true → ∀ H', Same H H' → Q (.str (S (pressT ts))) H') ∧ (pressOk ts = false → ∀ H', Same H H' → E (CBad K) none H')
abbrev s_pressed : Stmt := (top 7)
theorem sc_pressed : FnScope ["keys", "stroke", "key"] ["keys"] (defScope s_pressed) := ⟨rfl, rfl, rfl, by decide +kernel, rfl, by decide +kernel, by decide +kernel⟩

theorem ok_pressed {f : Addr} {fd : FuncData} (F : FunS K "pressed" s_pressed f fd) (b_len : mg "len" = none) (g_KEYS : ∃ u, mg "KEYS" = some u ∧ RelV (.str (S [97, 98, 99, 100, 101, 102, 103, 104, 105, 106])) u) (ex : ExF K mg) : FnOk P w K mg base (L2.CX P w) 1 f fd ["keys"] (sp_pressed K) := by
  refine F.ok sc_pressed (fun vs H Q E h => ?_) (fun cdv A outer s H vs Q E hr h => ?_)
  · obtain ⟨a, t, rfl, _⟩ := h
    rfl
  obtain ⟨a, ts, rfl, hq, ht, hl, ky, kn⟩ := h
  refine ⟨_, (pss_cons (ps_set (i := 1) sc_pressed.nd rfl (.inl rfl) (pe_join pe_str (pe_lc (own := [("key", 2)]) rfl sc_pressed.nd (pi_str (pe_gc (by rfl) g_KEYS)) (blkOk_by (N := ["keys", "stroke", "key"]) (sc := defScope s_pressed) (own := [("key", 2)]) (by decide +kernel)) (fun _ _ _ _ _ => (pg_name (i := 2) sc_pressed.nd rfl (.inl rfl))) (fun _ _ _ _ _ => (pts_one (pt_cmpR (inK (K := K) op_in_seq rfl) (pv 2) (pv 0) (by rfl)))) (fun _ _ _ _ _ => (pv 2)))))
  (pss_cons (ps_if (PW.pt (pw_or (pt_cmpR op_eq (pv 1) pe_str (nomark _)) (pw_or1 (pt_cmpR (op_neD hr.units) (pe_lc (own := [("key", 2)]) rfl sc_pressed.nd (pi_list (pv 0)) (blkOk_by (N := ["keys", "stroke", "key"]) (sc := defScope s_pressed) (own := [("key", 2)]) (by decide +kernel)) (fun _ _ _ _ _ => (pg_name (i := 2) sc_pressed.nd rfl (.inl rfl))) (fun _ _ _ _ _ => (pts_one (PW.pt (pw_or (pt_cmpR op_notin_str (pv 2) (pe_gc (by rfl) g_KEYS) (by rfl)) (pw_or1 (pt_cmpR op_ne (pe_callB call_len_str (by rfl) b_len PySem.boot_len (pa_cons (pv 2) pa_nil)) pe_int (nomark _))))))) (fun _ _ _ _ _ => (pv 2))) (pe_lst pa_nil) (nomark _)))))
    (pss_one (ps_raise rfl (takes_of rfl rfl rfl rfl) (pmk_own PySem.F.excBase_ValueError ex.x_BadStroke ex.g_BadStroke ex.k_BadStroke (raises_own ex.b_BadStroke ex.t_BadStroke) rfl)))
    pss_nil)
  (pss_one (ps_ret (pv 1))))), ?_⟩
  simp only [tSeq, tAsg, tAnd, tOr, tNot, tTest, tB, tOp, tUn, tCB, tCons, tNil, tVar, tC, gName, rI0, rI, rU, rEq, rNe, rIxS, rIxL, rIxT, tRet, tRetN, tTup, tLst, tSl, tPart, tNoPart, rSlS, tIf, tNext, tDrop, tCall, tBM, tBM0, tAndV, tOrV, tNotV, tM0, tM1, gSub, rSetL, sFld, gCons_eq, gNil_eq, tCallS_eq, tDGet, sDPut, tMeth, tMake, tFld, tChain, tIsN, tNotN,
  List.set_cons_zero, List.set_cons_succ, exists_eq_left', exists_eq_left, exists_eq, V.int.injEq, V.str.injEq, V.bl.injEq, V.ref.injEq, List.cons.injEq, and_true, true_and, List.getElem?_cons_zero, List.getElem?_cons_succ, Option.some.injEq, List.append_nil, exists_and_left, cxOf_K, false_and, and_false, exists_false, false_or, or_false, exists_eq', exists_const, sg_eq, S_eq, S_toList, S_ne, tFor_eq, tLc_eq, iList_eq, iTup_eq, iRng1_eq, iStr_eq, decide_eq_true_eq, Bool.not_eq_true', decide_eq_false_iff_not, if_true, if_false, Bool.false_eq_true, reduceCtorEq, Bool.true_eq_false, decide_true, decide_false, lit_, lit_110_111_32_107_101_121_115, start1_3]
  intro L hL
  have hin : ∀ {H' : Hp} {Q' : VK} (x : Tx), Same H H' → Q' (.bl (ts.contains x)) H' → rIn K false (.str (S x)) (.ref a) H' Q' := fun x s' q => by
    refine ⟨a, _, rfl, .inl (same_l s' hq), rfl, ?_, ?_⟩
    · rw [List.all_map]
      exact List.all_eq_true.mpr fun _ _ => rfl
    · rw [inV_S]
      exact q
  refine comp_str keysT (fun rest acc H1 => ∃ done, keysT = done ++ rest ∧ acc = ((done.filter fun c => ts.contains [c]).map fun c => S [c]).map V.str ∧ Same H H1) (by decide) ⟨[], rfl, rfl, same_new hL⟩ upd_same ?_ ?_
  · rintro i c r acc H1 hA hn hi ⟨done, e, rfl, s1⟩
    simp only [wipe, List.map_cons, List.map_nil, List.set_cons_succ, List.set_cons_zero, tSeq, tAsg, tAnd, tOr, tNot, tTest, tB, tOp, tUn, tCB, tCons, tNil, tVar, tC, gName, rI0, rI, rU, rEq, rNe, rIxS, rIxL, rIxT, tRet, tRetN, tTup, tLst, tSl, tPart, tNoPart, rSlS, tIf, tIfS, tNext, tDrop, tCall, tBM, tBM0, tAndV, tOrV, tNotV, tM0, tM1, gSub, rSetL, sFld, gCons_eq, gNil_eq, tCallS_eq, tDGet, sDPut, tMeth, tMake, tFld, tChain, tIsN, tNotN,
  List.set_cons_zero, List.set_cons_succ, exists_eq_left', exists_eq_left, exists_eq, V.int.injEq, V.str.injEq, V.bl.injEq, V.ref.injEq, List.cons.injEq, and_true, true_and, List.getElem?_cons_zero, List.getElem?_cons_succ, Option.some.injEq, List.append_nil, exists_and_left, cxOf_K, false_and, and_false, exists_false, false_or, or_false, exists_eq', exists_const, sg_eq, S_eq, S_toList, S_ne, tFor_eq, tLc_eq, iList_eq, iTup_eq, iRng1_eq, iStr_eq, decide_eq_true_eq, Bool.not_eq_true', decide_eq_false_iff_not, if_true, if_false, Bool.false_eq_true, reduceCtorEq, Bool.true_eq_false, decide_true, decide_false]
    refine hin [c] s1 ⟨_, rfl, ?_⟩
    cases hc : ts.contains [c] with
    | true =>
      simp only [if_true]
      refine cput hA hn hi ⟨done ++ [c], by rw [e]; simp, ?_, same_mut s1 hL⟩
      rw [List.filter_append, List.filter_cons_of_pos (by simpa using hc)]
      simp
    | false =>
      simp only [Bool.false_eq_true, if_false]
      refine cskip hA hn ⟨done ++ [c], by rw [e]; simp, ?_, s1⟩
      rw [List.filter_append, List.filter_cons_of_neg (by simpa using hc)]
      simp
  rintro acc H1 hA hn ⟨done, e, rfl, s1⟩
  rw [List.append_nil] at e
  subst e
  have hpl : (pressT ts).length ≤ 10 := by
    have := List.length_filter_le (fun c => ts.contains [c]) keysT
    exact this
  refine ⟨L, rfl, _, .inl (sq_of hA), signs_size _ (Nat.le_trans hpl (by decide)), ?_⟩
  rw [join_signs]
  have gdef : pressOk ts = (!(pressT ts).isEmpty && ts.all goodK) := rfl
  refine if_new (!pressOk ts) (fun R rr => ?_) (fun e H2 s2 => ?_) (fun e H2 s2 => ?_)
  · simp only [tSeq, tAsg, tAnd, tOr, tNot, tTest, tB, tOp, tUn, tCB, tCons, tNil, tVar, tC, gName, rI0, rI, rU, rEq, rNe, rIxS, rIxL, rIxT, tRet, tRetN, tTup, tLst, tSl, tPart, tNoPart, rSlS, tIf, tIfS, tNext, tDrop, tCall, tBM, tBM0, tAndV, tOrV, tNotV, tM0, tM1, gSub, rSetL, sFld, gCons_eq, gNil_eq, tCallS_eq, tDGet, sDPut, tMeth, tMake, tFld, tChain, tIsN, tNotN,
  List.set_cons_zero, List.set_cons_succ, exists_eq_left', exists_eq_left, exists_eq, V.int.injEq, V.str.injEq, V.bl.injEq, V.ref.injEq, List.cons.injEq, and_true, true_and, List.getElem?_cons_zero, List.getElem?_cons_succ, Option.some.injEq, List.append_nil, exists_and_left, cxOf_K, false_and, and_false, exists_false, false_or, or_false, exists_eq', exists_const, sg_eq, S_eq, S_toList, S_ne, tFor_eq, tLc_eq, iList_eq, iTup_eq, iRng1_eq, iStr_eq, decide_eq_true_eq, Bool.not_eq_true', decide_eq_false_iff_not, if_true, if_false, Bool.false_eq_true, reduceCtorEq, Bool.true_eq_false, decide_true, decide_false]
    refine ⟨rfl, ite2 (fun h => ?_) (fun h => ?_)⟩
    · have e0 : pressOk ts = false := by
        rw [gdef]
        have : pressT ts = [] := h
        rw [this]
        rfl
      rw [e0] at rr
      exact rr _ (Same.refl _)
    · have h' : (pressT ts).isEmpty = false := by
        rw [← Bool.not_eq_true, List.isEmpty_iff]
        exact h
      refine ⟨⟨_, same_l s1 hq⟩, fun L2 hL2 => ?_⟩
      refine comp_list (ts.map fun t => V.str (S t)) (fun rest acc H3 => ∃ done todo, ts = done ++ todo ∧ rest = todo.map (fun t => V.str (S t)) ∧ acc = (done.filter fun t => !goodK t).map (fun t => V.str (S t)) ∧ Same H1 H3) (by rw [List.length_map]; omega) ⟨[], ts, rfl, rfl, rfl, same_new hL2⟩ upd_same (fun r acc H3 ⟨_, _, _, _, _, s3⟩ => same_l (s1.trans s3) hq) ?_ ?_
      · rintro i x r acc H3 hA3 hn3 hi3 ⟨done, todo, e, er, rfl, s3⟩
        cases todo with
        | nil => cases er
        | cons t todo =>
          cases er
          have hm : t ∈ ts := by rw [e]; exact List.mem_append_right _ List.mem_cons_self
          obtain ⟨ha, h100⟩ := ht t hm
          simp only [wipe, List.map_cons, List.map_nil, List.set_cons_succ, List.set_cons_zero, tSeq, tAsg, tAnd, tOr, tNot, tTest, tB, tOp, tUn, tCB, tCons, tNil, tVar, tC, gName, rI0, rI, rU, rEq, rNe, rIxS, rIxL, rIxT, tRet, tRetN, tTup, tLst, tSl, tPart, tNoPart, rSlS, tIf, tIfS, tNext, tDrop, tCall, tBM, tBM0, tAndV, tOrV, tNotV, tM0, tM1, gSub, rSetL, sFld, gCons_eq, gNil_eq, tCallS_eq, tDGet, sDPut, tMeth, tMake, tFld, tChain, tIsN, tNotN,
  List.set_cons_zero, List.set_cons_succ, exists_eq_left', exists_eq_left, exists_eq, V.int.injEq, V.str.injEq, V.bl.injEq, V.ref.injEq, List.cons.injEq, and_true, true_and, List.getElem?_cons_zero, List.getElem?_cons_succ, Option.some.injEq, List.append_nil, exists_and_left, cxOf_K, false_and, and_false, exists_false, false_or, or_false, exists_eq', exists_const, sg_eq, S_eq, S_toList, S_ne, tFor_eq, tLc_eq, iList_eq, iTup_eq, iRng1_eq, iStr_eq, decide_eq_true_eq, Bool.not_eq_true', decide_eq_false_iff_not, if_true, if_false, Bool.false_eq_true, reduceCtorEq, Bool.true_eq_false, decide_true, decide_false]
          have yes : (!goodK t) = true → ∃ acc, H3 L2 = some (.lst acc) ∧ acc.length < sizeLine ∧ CNx L2 (i + 1) (fun acc H3 => ∃ done todo2, ts = done ++ todo2 ∧ todo.map (fun t => V.str (S t)) = todo2.map (fun t => V.str (S t)) ∧ acc = (done.filter fun t => !goodK t).map (fun t => V.str (S t)) ∧ Same H1 H3) (upd H3 L2 (.lst (acc ++ [.str (S t)]))) := fun h => by
            refine cput hA3 hn3 hi3 ⟨done ++ [t], todo, by rw [e]; simp, rfl, ?_, same_mut s3 hL2⟩
            rw [List.filter_append, show [t].filter (fun t => !goodK t) = [t] from by simp only [List.filter, h], List.map_append]
            rfl
          have no : (!goodK t) = false → CNx L2 (i + 1) (fun acc H3 => ∃ done todo2, ts = done ++ todo2 ∧ todo.map (fun t => V.str (S t)) = todo2.map (fun t => V.str (S t)) ∧ acc = (done.filter fun t => !goodK t).map (fun t => V.str (S t)) ∧ Same H1 H3) H3 := fun h => by
            refine cskip hA3 hn3 ⟨done ++ [t], todo, by rw [e]; simp, rfl, ?_, s3⟩
            rw [List.filter_append, show [t].filter (fun t => !goodK t) = [] from by simp only [List.filter, h], List.append_nil]
          match t, ha, h100, yes, no with
          | [c], ha, h100, yes, no =>
            have o1 : (Builtin.Str.occurrences (S [97, 98, 99, 100, 101, 102, 103, 104, 105, 106]) (S [c]) 0 (S [97, 98, 99, 100, 101, 102, 103, 104, 105, 106]).length 1).isEmpty = decide (posK c = -1) := occ1 c (ha c List.mem_cons_self)
            rw [o1]
            have hg : goodK [c] = decide (posK c ≠ -1) := rfl
            by_cases hp : posK c = -1
            · rw [decide_eq_true hp, if_pos (show (!true) = false from rfl)]
              exact yes (by rw [hg, decide_eq_false (fun z => z hp)]; rfl)
            · rw [decide_eq_false hp, if_neg (show ¬ (!false) = false from fun z => nomatch z)]
              refine ⟨(size_le (by (try simp only [S_len, List.length_append, List.length_cons, List.length_nil]); omega)), rfl, ?_⟩
              rw [if_neg (by rw [S_len]; simp)]
              exact no (by rw [hg, decide_eq_true hp]; rfl)
          | [], ha, h100, yes, no => exact ite2 (fun _ => yes rfl) (fun _ => ⟨(size_le (by (try simp only [S_len, List.length_append, List.length_cons, List.length_nil]); omega)), rfl, by rw [if_pos (by rw [S_len]; simp)]; exact yes rfl⟩)
          | a :: b :: u, ha, h100, yes, no => exact ite2 (fun _ => yes rfl) (fun _ => ⟨size_le (by rw [S_len]; omega), rfl, by rw [if_pos (by rw [S_len]; simp; omega)]; exact yes rfl⟩)
      · rintro acc H3 hA3 hn3 ⟨done, todo, e, er, rfl, s3⟩
        cases todo with
        | cons t todo => cases er
        | nil =>
          rw [List.append_nil] at e
          subst e
          refine ⟨(size_le (by simp only [List.length_cons, List.length_nil]; decide)), fun p np => ?_⟩
          have dl : Dp K (upd H3 p (.lst [])) (.ref L2) (.list ((ts.filter fun t => !goodK t).map fun t => PyData.str (S t))) := by
            have h1 : (upd H3 p (.lst [])) L2 = some (.lst ((ts.filter fun t => !goodK t).map fun t => V.str (S t))) := by
              rw [upd_ne (ne_of_none hA3 np)]
              exact hA3
            have e5 := dp_strs (K := K) (H := upd H3 p (.lst [])) ((ts.filter fun t => !goodK t).map fun t => S t)
            rw [List.map_map, List.map_map] at e5
            exact .lst (sq_of h1) e5
          have okl : okD 2 (.list ((ts.filter fun t => !goodK t).map fun t => PyData.str (S t))) := by
            refine ⟨by rw [List.length_map]; exact Nat.le_trans (List.length_filter_le _ _) (by omega), fun d hd => ?_⟩
            obtain ⟨x, hx, rfl⟩ := List.mem_map.mp hd
            exact asc_ok (ht x (List.mem_filter.mp hx).1).1
          refine ⟨_, .list [], dl, .lst (sq_of upd_same) .nil, okl.shaped (by decide), rfl, _, rfl, ?_⟩
          rw [eqv_nil]
          have q := rr (upd H3 p (.lst [])) (s3.trans (same_new np))
          have e8 : (!pressOk ts) = !((ts.filter fun t => !goodK t).map fun t => PyData.str (S t)).isEmpty := by
            rw [gdef, h']
            simp only [Bool.not_false, Bool.true_and]
            congr 1
            rw [Bool.eq_iff_iff, List.isEmpty_iff, List.map_eq_nil_iff, List.filter_eq_nil_iff, List.all_eq_true]
            constructor
            · intro h x hx z
              rw [h x hx] at z
              cases z
            · intro h x hx
              have := h x hx
              simpa using this
          rw [e8] at q
          exact q
  · refine kn (by rw [Bool.not_eq_true'] at e; exact e) _ (s1.trans s2)
  · simp only [tSeq, tAsg, tAnd, tOr, tNot, tTest, tB, tOp, tUn, tCB, tCons, tNil, tVar, tC, gName, rI0, rI, rU, rEq, rNe, rIxS, rIxL, rIxT, tRet, tRetN, tTup, tLst, tSl, tPart, tNoPart, rSlS, tIf, tIfS, tNext, tDrop, tCall, tBM, tBM0, tAndV, tOrV, tNotV, tM0, tM1, gSub, rSetL, sFld, gCons_eq, gNil_eq, tCallS_eq, tDGet, sDPut, tMeth, tMake, tFld, tChain, tIsN, tNotN,
  List.set_cons_zero, List.set_cons_succ, exists_eq_left', exists_eq_left, exists_eq, V.int.injEq, V.str.injEq, V.bl.injEq, V.ref.injEq, List.cons.injEq, and_true, true_and, List.getElem?_cons_zero, List.getElem?_cons_succ, Option.some.injEq, List.append_nil, exists_and_left, cxOf_K, false_and, and_false, exists_false, false_or, or_false, exists_eq', exists_const, sg_eq, S_eq, S_toList, S_ne, tFor_eq, tLc_eq, iList_eq, iTup_eq, iRng1_eq, iStr_eq, decide_eq_true_eq, Bool.not_eq_true', decide_eq_false_iff_not, if_true, if_false, Bool.false_eq_true, reduceCtorEq, Bool.true_eq_false, decide_true, decide_false]
    exact ky (by rw [Bool.not_eq_false'] at e; exact e) _ (s1.trans s2)
end
/-! ### what is told: the value, or that it was refused -/
abbrev wBad : Tx := [98, 97, 100]
def badD : PyData := .tuple [.str (S wBad), .bool true]
def sp_told (K : PySem.W.Frag) : Sp := fun vs H Q _ =>
  (∃ (a : Addr) (ts : List Tx), vs = [.int 0, .ref a] ∧ SqL K H a (ts.map fun t => .str (S t)) ∧ (∀ t ∈ ts, asc t ∧ t.length ≤ 100) ∧ ts.length ≤ 100 ∧
    ∀ v H', Same H H' → Dp K H' v (if pressOk ts then .str (S (pressT ts)) else badD) → Q v H') ∨
  ∃ r : List Tx, vs = [.int 1, .str (S (rowT r))] ∧ r ≠ [] ∧ (∀ t ∈ r, 47 ∉ t ∧ asc t ∧ t.length ≤ 100) ∧ r.length ≤ 100 ∧
    ∀ v H', Same H H' → Dp K H' v (if rowOk r then rowD r else badD) → Q v H'
abbrev s_l_told : Stmt := (top 17)
theorem sc_l_told : FnScope ["_law_way", "_law_value", "e"] ["_law_way", "_law_value"] (defScope s_l_told) := ⟨rfl, rfl, rfl, by decide +kernel, rfl, by decide +kernel, by decide +kernel⟩

section
variable {P : Program} {w : World} {K : PySem.W.Frag} {mg : Str → Option Value} {base : Heap}
theorem ok_told {f : Addr} {fd : FuncData} (F : FunS K "_law_told" s_l_told f fd) (b_ValueError : mg "ValueError" = none) (b_isinstance : mg "isinstance" = none) (ex : ExF K mg) (c_pressed : CalX P w K mg base 1 "pressed" (sp_pressed K)) (c_read_row : CalX P w K mg base 2 "read_row" (sp_read_row K)) : FnOk P w K mg base CX0 4 f fd ["_law_way", "_law_value"] (sp_told K) := by
  refine F.ok sc_l_told (fun vs H Q E h => ?_) (fun cdv A outer s H vs Q E hr h => ?_)
  · rcases h with ⟨a, ts, rfl, _⟩ | ⟨r, rfl, _⟩ <;> rfl
  refine ⟨_, PSs.nox (pss_one (ps_try_as (i := 2) (c := .ref (He.ga K "BadStroke")) (Wout := fun _ _ _ _ => False) rfl rfl sc_l_told.nd rfl rfl ⟨rfl, by decide, .inl ex.g_BadStroke⟩ takes0
   (fun W pn xe tk _ => (pss_cons (ps_if (pt_cmpR op_eq (pv 0) pe_int (nomark _))
    (pss_one (ps_ret (pe_cs c_pressed hr (by first | decide | omega) (by rfl) tk (pa_cons (pv 1) pa_nil))))
    pss_nil)
  (pss_one (ps_ret (pe_cs c_read_row hr (by first | decide | omega) (by rfl) tk (pa_cons (pv 1) pa_nil))))))
   (fun a oe cls d pn hz hf => pss_and (q := cls = .ref (He.ga K "BadStroke") ∧ d = none) (fun hcd => (pss_one (ps_ret (pe_tup (pa_cons pe_str (pa_cons (pe_and (pe_callB (isE_K (K := K) rfl ex.c_BadStroke (zc_of hcd hz) hf) (by rfl) b_isinstance (by decide +kernel) (pa_cons (pv 2) (pa_cons (pe_glob (v := .ref (He.ga K "ChordError")) (by rfl) ex.g_ChordError rfl) pa_nil))) (pe_one (pe_callB (isE_K (K := K) rfl ex.c_BadStroke (zc_of hcd hz) hf) (by rfl) b_isinstance (by decide +kernel) (pa_cons (pv 2) (pa_cons (pe_bltn (v := .ty "ValueError") (by rfl) b_ValueError (by decide +kernel) rfl) pa_nil))))) pa_nil))))))))), ?_⟩
  -- the suite
  rcases h with ⟨a, ts, rfl, hq, ht, hl, k⟩ | ⟨r, rfl, hne, ht, hl, k⟩
  · simp only [tSeq, tAsg, tAnd, tOr, tNot, tTest, tB, tOp, tUn, tCB, tCons, tNil, tVar, tC, gName, rI0, rI, rU, rEq, rNe, rIxS, rIxL, rIxT, tRet, tRetN, tTup, tLst, tSl, tPart, tNoPart, rSlS, tIf, tIfS, tNext, tDrop, tCall, tBM, tBM0, tAndV, tOrV, tNotV, tM0, tM1, gSub, rSetL, sFld, gCons_eq, gNil_eq, tCallS_eq, tDGet, sDPut, tMeth, tMake, tFld, tChain, tIsN, tNotN,
  List.set_cons_zero, List.set_cons_succ, exists_eq_left', exists_eq_left, exists_eq, V.int.injEq, V.str.injEq, V.bl.injEq, V.ref.injEq, List.cons.injEq, and_true, true_and, List.getElem?_cons_zero, List.getElem?_cons_succ, Option.some.injEq, List.append_nil, exists_and_left, cxOf_K, false_and, and_false, exists_false, false_or, or_false, exists_eq', exists_const, sg_eq, S_eq, S_toList, S_ne, tFor_eq, tLc_eq, iList_eq, iTup_eq, iRng1_eq, iStr_eq, decide_eq_true_eq, Bool.not_eq_true', decide_eq_false_iff_not, if_true, if_false, Bool.false_eq_true, reduceCtorEq, Bool.true_eq_false, decide_true, decide_false, lit_98_97_100, start2_3]
    refine ⟨rfl, a, ts, rfl, hq, ht, hl, fun ok H1 s1 => ?_, fun bad H1 s1 => ?_⟩
    · rw [if_pos ok] at k
      exact k _ H1 s1 (.str _)
    · rw [if_neg (by rw [bad]; decide)] at k
      refine ⟨true, ex.m_BadStroke, fun _ a0 _ => ⟨⟨rfl, rfl⟩, _, rfl, _, _, _, rfl, fun u h => h, ex.q_ChordError, _, rfl, ?_⟩, fun q => nomatch q⟩
      rw [if_pos rfl]
      refine ⟨_, rfl, _, _, _, rfl, fun u h => h, ex.q_ValueError, (size_le (by simp only [List.length_cons, List.length_nil]; decide)), ?_⟩
      (intro p np; generalize hqp : upd H1 p _ = H2; obtain ⟨e2, f2⟩ := al_ np hqp; clear hqp)
      exact k _ H2 (s1.trans e2) (.tup (st_of f2) (.cons (.str _) (.cons (.bl true) .nil)))
  · simp only [tSeq, tAsg, tAnd, tOr, tNot, tTest, tB, tOp, tUn, tCB, tCons, tNil, tVar, tC, gName, rI0, rI, rU, rEq, rNe, rIxS, rIxL, rIxT, tRet, tRetN, tTup, tLst, tSl, tPart, tNoPart, rSlS, tIf, tIfS, tNext, tDrop, tCall, tBM, tBM0, tAndV, tOrV, tNotV, tM0, tM1, gSub, rSetL, sFld, gCons_eq, gNil_eq, tCallS_eq, tDGet, sDPut, tMeth, tMake, tFld, tChain, tIsN, tNotN,
  List.set_cons_zero, List.set_cons_succ, exists_eq_left', exists_eq_left, exists_eq, V.int.injEq, V.str.injEq, V.bl.injEq, V.ref.injEq, List.cons.injEq, and_true, true_and, List.getElem?_cons_zero, List.getElem?_cons_succ, Option.some.injEq, List.append_nil, exists_and_left, cxOf_K, false_and, and_false, exists_false, false_or, or_false, exists_eq', exists_const, sg_eq, S_eq, S_toList, S_ne, tFor_eq, tLc_eq, iList_eq, iTup_eq, iRng1_eq, iStr_eq, decide_eq_true_eq, Bool.not_eq_true', decide_eq_false_iff_not, if_true, if_false, Bool.false_eq_true, reduceCtorEq, Bool.true_eq_false, decide_true, decide_false, lit_98_97_100, start2_3]
    rw [if_neg (by decide)]
    refine ⟨rfl, r, rfl, hne, ht, hl, fun ok q H1 s1 h1 => ?_, fun bad H1 s1 => ?_⟩
    · rw [if_pos ok] at k
      refine k _ H1 s1 (.tup (st_of h1) ?_)
      have := dp_strs (K := K) (H := H1) (r.map SX.S)
      rw [List.map_map (f := SX.S) (g := PyData.str)] at this
      exact this
    · rw [if_neg (by rw [bad]; decide)] at k
      refine ⟨true, ex.m_BadStroke, fun _ a0 _ => ⟨⟨rfl, rfl⟩, _, rfl, _, _, _, rfl, fun u h => h, ex.q_ChordError, _, rfl, ?_⟩, fun q => nomatch q⟩
      rw [if_pos rfl]
      refine ⟨_, rfl, _, _, _, rfl, fun u h => h, ex.q_ValueError, (size_le (by simp only [List.length_cons, List.length_nil]; decide)), ?_⟩
      (intro p np; generalize hqp : upd H1 p _ = H2; obtain ⟨e2, f2⟩ := al_ np hqp; clear hqp)
      exact k _ H2 (s1.trans e2) (.tup (st_of f2) (.cons (.str _) (.cons (.bl true) .nil)))
end
/-! ### the law of pressed keys and rows -/
abbrev s_law : Stmt := (top 18)
theorem sc_law : FnScope ["_law_script", "_law_box", "_law_keys", "_law_due", "_law_handed", "_law_row_here", "_law_text", "_law_bad", "_law_k", "_law_key"] ["_law_script"] (defScope s_law) := ⟨rfl, rfl, rfl, by decide +kernel, rfl, by decide +kernel, by decide +kernel⟩

def sp_law (K : PySem.W.Frag) : Sp := fun vs H Q _ => ∃ (a : Addr) (ns : List Int), vs = [.ref a] ∧ SqL K H a (ns.map V.int) ∧ ns.length ≤ 63 ∧ ∀ H', Q (.bl true) H'
theorem start1_10' {a b c d e f g h i j : Str} {u : V} : L2.start [a, b, c, d, e, f, g, h, i, j] [u] = [some u, none, none, none, none, none, none, none, none, none] := rfl
theorem stroke_no (n : Nat) : 47 ∉ strokeT n := fun h => by
  obtain ⟨k, _, e⟩ := List.mem_map.mp h
  omega
theorem rowT_snoc : ∀ (r : List Tx) (x : Tx), r ≠ [] → rowT (r ++ [x]) = rowT r ++ 47 :: x
  | [], _, h => absurd rfl h
  | [t], x, _ => rfl
  | t :: u :: r, x, _ => by
    have ih := rowT_snoc (u :: r) x (fun z => nomatch z)
    show t ++ ([47] ++ rowT ((u :: r) ++ [x])) = (t ++ ([47] ++ rowT (u :: r))) ++ 47 :: x
    rw [ih]
    simp
theorem rowT_last : ∀ (r : List Tx) (x y : Tx), rowT (r ++ [x ++ y]) = rowT (r ++ [x]) ++ y
  | [], x, y => rfl
  | t :: r, x, y => by
    by_cases h : r = []
    · subst h
      show t ++ ([47] ++ (x ++ y)) = (t ++ ([47] ++ x)) ++ y
      simp
    · have h1 : t :: r ≠ [] := fun z => nomatch z
      rw [rowT_snoc (t :: r) _ h1, rowT_snoc (t :: r) _ h1]
      simp
theorem pos_ge (c : Nat) : -1 ≤ posK c := by
  unfold posK
  split <;> omega
theorem incr_bad : ∀ (t : Tx) (l : Int), -1 ≤ l → incr l (t ++ [32]) = false
  | [], l, h => by
    have : posK 32 = -1 := rfl
    simp only [List.nil_append, incr, this, Bool.and_true, decide_eq_false_iff_not]
    omega
  | c :: r, l, h => by
    have ih := incr_bad r (posK c) (pos_ge c)
    show (decide (l < posK c) && incr (posK c) (r ++ [32])) = false
    rw [ih, Bool.and_false]
theorem strokeOk_bad (t : Tx) : strokeOk (t ++ [32]) = false := by
  rw [strokeOk, incr_bad t (-1) (by decide), Bool.and_false]
theorem rowOk_bad {r : List Tx} {x : Tx} (h : strokeOk x = false) : rowOk (r ++ [x]) = false := by
  have : (r ++ [x]).all strokeOk = false := by
    rw [List.all_eq_false]
    exact ⟨x, by simp, by rw [h]; decide⟩
  rw [rowOk, this, Bool.and_false]
theorem keys_get : ∀ r, (h : r < 10) → 97 ≤ [97, 98, 99, 100, 101, 102, 103, 104, 105, 106][r] ∧ [97, 98, 99, 100, 101, 102, 103, 104, 105, 106][r] ≤ 106 := by decide
theorem press_all {ks : Tx} (h : ∀ c ∈ ks, 97 ≤ c ∧ c ≤ 106) : pressOk (ks.map fun c => [c]) = !(pressT (ks.map fun c => [c])).isEmpty := by
  have h1 : (ks.map fun c => [c]).all goodK = true := by
    rw [List.all_map]
    refine List.all_eq_true.mpr fun c hc => ?_
    have := h c hc
    have e : posK c = (c : Int) - 97 := if_pos this
    show decide (posK c ≠ -1) = true
    rw [e]
    exact decide_eq_true (by omega)
  rw [pressOk, h1, Bool.and_true]
section
variable {P : Program} {w : World} {K : PySem.W.Frag} {mg : Str → Option Value} {base : Heap}
theorem ok_law {f : Addr} {fd : FuncData} (F : FunS K "law" s_law f fd) (b_len : mg "len" = none) (b_list : mg "list" = none) (b_range : mg "range" = none) (b_tuple : mg "tuple" = none) (c_l_begun : Cal P w K mg base CX0 1 "_law_begun" (sp_begun K)) (c_l_take : Cal P w K mg base CX0 1 "_law_take" sp_take) (c_l_alike : Cal P w K mg base CX0 6 "_law_alike" (sp_alike K 6)) (c_l_told : Cal P w K mg base CX0 4 "_law_told" (sp_told K)) (c_l_stroke : Cal P w K mg base CX0 2 "_law_stroke" sp_stroke) (c_row_text : Cal P w K mg base CX0 1 "row_text" (sp_row_text K)) : FnOk P w K mg base CX0 9 f fd ["_law_script"] (sp_law K) := by
  refine F.ok sc_law (fun vs H Q E h => ?_) (fun cdv A outer s H vs Q E hr h => ?_)
  · obtain ⟨a, ns, rfl, _⟩ := h
    rfl
  obtain ⟨a, ns, rfl, hS, hn, k⟩ := h
  refine ⟨_, PSs.nox (pss_cons (ps_set (i := 1) sc_law.nd rfl (.inr rfl) (pe_c c_l_begun hr (by first | decide | omega) (by rfl) (pa_cons (pv 0) pa_nil)))
  (pss_cons (ps_set (i := 2) sc_law.nd rfl (.inr rfl) (pe_lc (own := [("_law_k", 8)]) rfl sc_law.nd (pi_range1 (by rfl) b_range (pa_cons (pe_c c_l_take hr (by first | decide | omega) (by rfl) (pa_cons (pv 1) (pa_cons pe_int pa_nil))) pa_nil)) (blkOk_by (N := ["_law_script", "_law_box", "_law_keys", "_law_due", "_law_handed", "_law_row_here", "_law_text", "_law_bad", "_law_k", "_law_key"]) (sc := defScope s_law) (own := [("_law_k", 8)]) (by decide +kernel)) (fun _ _ _ _ _ => (pg_name (i := 8) sc_law.nd rfl (.inl rfl))) (fun _ _ _ _ _ => pts_nil) (fun _ _ _ _ _ => (pe_ix ix_str pe_str (pe_c c_l_take hr (by first | decide | omega) (by rfl) (pa_cons (pv 1) (pa_cons pe_int pa_nil))) (fun _ _ => rfl)))))
  (pss_cons (ps_set (i := 3) sc_law.nd rfl (.inl rfl) (pe_join pe_str (pe_lc (own := [("_law_key", 9)]) rfl sc_law.nd (pi_str pe_str) (blkOk_by (N := ["_law_script", "_law_box", "_law_keys", "_law_due", "_law_handed", "_law_row_here", "_law_text", "_law_bad", "_law_k", "_law_key"]) (sc := defScope s_law) (own := [("_law_key", 9)]) (by decide +kernel)) (fun _ _ _ _ _ => (pg_name (i := 9) sc_law.nd rfl (.inl rfl))) (fun _ _ _ _ _ => (pts_one (pt_cmpR (inK (K := K) op_in_seq rfl) (pv 9) (pv 2) (by rfl)))) (fun _ _ _ _ _ => (pv 9)))))
  (pss_cons (ps_if (pt_cmpR op_eq (pe_c c_l_take hr (by first | decide | omega) (by rfl) (pa_cons (pv 1) (pa_cons pe_int pa_nil))) pe_int (nomark _))
    (pss_cons (ps_expr (pe_bm PySem.F.plainAttrs_list PySem.F.slot_list_insert PySem.F.type_list_insert mt_insert (pv 2) (pa_cons (pe_c c_l_take hr (by first | decide | omega) (by rfl) (pa_cons (pv 1) (pa_cons (pe_op op_add (pe_callB call_len_seq (by rfl) b_len PySem.boot_len (pa_cons (pv 2) pa_nil)) pe_int) pa_nil))) (pa_cons (pe_ix ix_list (pe_lst (pa_cons pe_str (pa_cons pe_str (pa_cons pe_str (pa_cons pe_str (pa_cons pe_str pa_nil)))))) (pe_c c_l_take hr (by first | decide | omega) (by rfl) (pa_cons (pv 1) (pa_cons pe_int pa_nil))) (fun _ _ => rfl)) pa_nil))))
  (pss_one (ps_set (i := 3) sc_law.nd rfl (.inl rfl) pe_str)))
    pss_nil)
  (pss_cons (ps_set (i := 4) sc_law.nd rfl (.inl rfl) (pe_callTy call_list_of (by rfl) b_list (by decide +kernel) (pa_cons (pv 2) pa_nil)))
  (pss_cons (ps_if (pt_cmpR op_eq (pv 3) pe_str (nomark _))
    (pss_one (ps_set (i := 3) sc_law.nd rfl (.inl rfl) (pe_tup (pa_cons pe_str (pa_cons pe_bl pa_nil)))))
    pss_nil)
  (pss_cons (ps_if (PW.pt (pw_or (pt_not (pt_val (pe_c c_l_alike hr (by first | decide | omega) (by rfl) (pa_cons (pe_c c_l_told hr (by first | decide | omega) (by rfl) (pa_cons pe_int (pa_cons (pv 4) pa_nil))) (pa_cons (pv 3) pa_nil))))) (pw_or1 (pt_cmpR (op_neD hr.units) (pv 4) (pv 2) (nomark _)))))
    (pss_one (ps_ret pe_bl))
    pss_nil)
  (pss_cons (ps_set (i := 5) sc_law.nd rfl (.inl rfl) (pe_callTy call_tuple_of (by rfl) b_tuple (by decide +kernel) (pa_cons (pe_lc (own := [("_law_k", 8)]) rfl sc_law.nd (pi_range1 (by rfl) b_range (pa_cons (pe_op op_add pe_int (pe_c c_l_take hr (by first | decide | omega) (by rfl) (pa_cons (pv 1) (pa_cons pe_int pa_nil)))) pa_nil)) (blkOk_by (N := ["_law_script", "_law_box", "_law_keys", "_law_due", "_law_handed", "_law_row_here", "_law_text", "_law_bad", "_law_k", "_law_key"]) (sc := defScope s_law) (own := [("_law_k", 8)]) (by decide +kernel)) (fun _ _ _ _ _ => (pg_name (i := 8) sc_law.nd rfl (.inl rfl))) (fun _ _ _ _ _ => pts_nil) (fun _ _ _ _ _ => (pe_c c_l_stroke hr (by first | decide | omega) (by rfl) (pa_cons (pv 1) pa_nil)))) pa_nil)))
  (pss_cons (ps_set (i := 6) sc_law.nd rfl (.inl rfl) (pe_join pe_str (pv 5)))
  (pss_cons (ps_if (PW.pt (pw_or (pt_not (pt_val (pe_c c_l_alike hr (by first | decide | omega) (by rfl) (pa_cons (pe_c c_row_text hr (by first | decide | omega) (by rfl) (pa_cons (pv 5) pa_nil)) (pa_cons (pv 6) pa_nil))))) (pw_or1 (pt_not (pt_val (pe_c c_l_alike hr (by first | decide | omega) (by rfl) (pa_cons (pe_c c_l_told hr (by first | decide | omega) (by rfl) (pa_cons pe_int (pa_cons (pv 6) pa_nil))) (pa_cons (pv 5) pa_nil))))))))
    (pss_one (ps_ret pe_bl))
    pss_nil)
  (pss_cons (ps_set (i := 7) sc_law.nd rfl (.inl rfl) (pe_op op_add_str (pv 6) (pe_ix ix_list (pe_lst (pa_cons pe_str (pa_cons pe_str (pa_cons pe_str (pa_cons (pe_op op_strmul pe_str pe_int) (pa_cons pe_str (pa_cons pe_str pa_nil))))))) (pe_c c_l_take hr (by first | decide | omega) (by rfl) (pa_cons (pv 1) (pa_cons pe_int pa_nil))) (fun _ _ => rfl))))
  (pss_one (ps_ret (pe_and (pe_cmpR (op_eqD hr.units) (pe_c c_l_told hr (by first | decide | omega) (by rfl) (pa_cons pe_int (pa_cons (pv 7) pa_nil))) (pe_tup (pa_cons pe_str (pa_cons pe_bl pa_nil))) (nomark _)) (pe_one (pe_cmpR (op_eqD hr.units) (pe_c c_l_told hr (by first | decide | omega) (by rfl) (pa_cons pe_int (pa_cons pe_str pa_nil))) (pe_tup (pa_cons pe_str (pa_cons pe_bl pa_nil))) (nomark _))))))))))))))))), ?_⟩
  simp only [tSeq, tAsg, tAnd, tOr, tNot, tTest, tB, tOp, tUn, tCB, tCons, tNil, tVar, tC, gName, rI0, rI, rU, rEq, rNe, rIxS, rIxL, rIxT, tRet, tRetN, tTup, tLst, tSl, tPart, tNoPart, rSlS, tIf, tNext, tDrop, tCall, tBM, tBM0, tAndV, tOrV, tNotV, tM0, tM1, gSub, rSetL, sFld, gCons_eq, gNil_eq, tCallS_eq, tDGet, sDPut, tMeth, tMake, tFld, tChain, tIsN, tNotN,
  List.set_cons_zero, List.set_cons_succ, exists_eq_left', exists_eq_left, exists_eq, V.int.injEq, V.str.injEq, V.bl.injEq, V.ref.injEq, List.cons.injEq, and_true, true_and, List.getElem?_cons_zero, List.getElem?_cons_succ, Option.some.injEq, List.append_nil, exists_and_left, cxOf_K, false_and, and_false, exists_false, false_or, or_false, exists_eq', exists_const, sg_eq, S_eq, S_toList, S_ne, tFor_eq, tLc_eq, iList_eq, iTup_eq, iRng1_eq, iStr_eq, decide_eq_true_eq, Bool.not_eq_true', decide_eq_false_iff_not, if_true, if_false, Bool.false_eq_true, reduceCtorEq, Bool.true_eq_false, decide_true, decide_false, lit_, lit_97_98_99_100_101_102_103_104_105_106, lit_98_97_100, lit_47, lit_47_98_97, lit_47_97_97, lit_32, lit_47_107, lit_107, lit_97_98, lit_65, lit_47_97, start1_10]
  refine ⟨a, ns, rfl, hS, hn, fun b G H1 e1 B1 => ?_⟩
  refine take_ B1 (by decide) (by decide) fun r1 H2 hr1 B2 => ?_
  simp only [tSeq, tAsg, tAnd, tOr, tNot, tTest, tB, tOp, tUn, tCB, tCons, tNil, tVar, tC, gName, rI0, rI, rU, rEq, rNe, rIxS, rIxL, rIxT, tRet, tRetN, tTup, tLst, tSl, tPart, tNoPart, rSlS, tIf, tNext, tDrop, tCall, tBM, tBM0, tAndV, tOrV, tNotV, tM0, tM1, gSub, rSetL, sFld, gCons_eq, gNil_eq, tCallS_eq, tDGet, sDPut, tMeth, tMake, tFld, tChain, tIsN, tNotN,
  List.set_cons_zero, List.set_cons_succ, exists_eq_left', exists_eq_left, exists_eq, V.int.injEq, V.str.injEq, V.bl.injEq, V.ref.injEq, List.cons.injEq, and_true, true_and, List.getElem?_cons_zero, List.getElem?_cons_succ, Option.some.injEq, List.append_nil, exists_and_left, cxOf_K, false_and, and_false, exists_false, false_or, or_false, exists_eq', exists_const, sg_eq, S_eq, S_toList, S_ne, tFor_eq, tLc_eq, iList_eq, iTup_eq, iRng1_eq, iStr_eq, decide_eq_true_eq, Bool.not_eq_true', decide_eq_false_iff_not, if_true, if_false, Bool.false_eq_true, reduceCtorEq, Bool.true_eq_false, decide_true, decide_false]
  refine ⟨by omega, by omega, fun L hL => ?_⟩
  rw [Int.toNat_natCast]
  refine signs_draw (fun c => 97 ≤ c ∧ c ≤ 106) (by omega) B2 hL (fun _ => rfl) (fun i G' H' Q' _ _ B q => ?_) ?_
  · simp only [wipe, List.map_cons, List.map_nil, List.set_cons_succ, List.set_cons_zero, tSeq, tAsg, tAnd, tOr, tNot, tTest, tB, tOp, tUn, tCB, tCons, tNil, tVar, tC, gName, rI0, rI, rU, rEq, rNe, rIxS, rIxL, rIxT, tRet, tRetN, tTup, tLst, tSl, tPart, tNoPart, rSlS, tIf, tIfS, tNext, tDrop, tCall, tBM, tBM0, tAndV, tOrV, tNotV, tM0, tM1, gSub, rSetL, sFld, gCons_eq, gNil_eq, tCallS_eq, tDGet, sDPut, tMeth, tMake, tFld, tChain, tIsN, tNotN,
  List.set_cons_zero, List.set_cons_succ, exists_eq_left', exists_eq_left, exists_eq, V.int.injEq, V.str.injEq, V.bl.injEq, V.ref.injEq, List.cons.injEq, and_true, true_and, List.getElem?_cons_zero, List.getElem?_cons_succ, Option.some.injEq, List.append_nil, exists_and_left, cxOf_K, false_and, and_false, exists_false, false_or, or_false, exists_eq', exists_const, sg_eq, S_eq, S_toList, S_ne, tFor_eq, tLc_eq, iList_eq, iTup_eq, iRng1_eq, iStr_eq, decide_eq_true_eq, Bool.not_eq_true', decide_eq_false_iff_not, if_true, if_false, Bool.false_eq_true, reduceCtorEq, Bool.true_eq_false, decide_true, decide_false]
    refine take_ B (by decide) (by decide) fun r H4 hr B4 => ?_
    simp only [tSeq, tAsg, tAnd, tOr, tNot, tTest, tB, tOp, tUn, tCB, tCons, tNil, tVar, tC, gName, rI0, rI, rU, rEq, rNe, rIxS, rIxL, rIxT, tRet, tRetN, tTup, tLst, tSl, tPart, tNoPart, rSlS, tIf, tIfS, tNext, tDrop, tCall, tBM, tBM0, tAndV, tOrV, tNotV, tM0, tM1, gSub, rSetL, sFld, gCons_eq, gNil_eq, tCallS_eq, tDGet, sDPut, tMeth, tMake, tFld, tChain, tIsN, tNotN,
  List.set_cons_zero, List.set_cons_succ, exists_eq_left', exists_eq_left, exists_eq, V.int.injEq, V.str.injEq, V.bl.injEq, V.ref.injEq, List.cons.injEq, and_true, true_and, List.getElem?_cons_zero, List.getElem?_cons_succ, Option.some.injEq, List.append_nil, exists_and_left, cxOf_K, false_and, and_false, exists_false, false_or, or_false, exists_eq', exists_const, sg_eq, S_eq, S_toList, S_ne, tFor_eq, tLc_eq, iList_eq, iTup_eq, iRng1_eq, iStr_eq, decide_eq_true_eq, Bool.not_eq_true', decide_eq_false_iff_not, if_true, if_false, Bool.false_eq_true, reduceCtorEq, Bool.true_eq_false, decide_true, decide_false]
    have h10 : r < [97, 98, 99, 100, 101, 102, 103, 104, 105, 106].length := by
      show r < 10
      omega
    refine ⟨(size_le (by (try simp only [S_len, List.length_append, List.length_cons, List.length_nil]); omega)), _, atI_nat (List.getElem?_eq_getElem h10), q _ _ _ (Same.refl _) B4 ?_⟩
    exact keys_get r (by omega)
  intro ks G3 H3 s3 B3 hl3 hks hkk
  have hl3' : G3 L = some (.lst ((ks.map fun c => [c]).map fun t => V.str (S t))) := by
    rw [hl3, List.map_map, List.map_map]
    rfl
  have kasc : asc ks := fun c hc => by have := hkk c hc; omega
  have k12 : ks.length ≤ 12 := by omega
  -- the due text
  intro L2 hL2
  have hin : ∀ {H' : Hp} {Q' : VK} (x : Tx), Same H3 H' → Q' (.bl ((ks.map fun c => [c]).contains x)) H' → rIn K false (.str (S x)) (.ref L) H' Q' := fun x s' q => by
    refine ⟨L, _, rfl, .inl (sq_of (s' _ _ (B3.ex _ _ hl3'))), rfl, ?_, ?_⟩
    · rw [List.all_map]
      exact List.all_eq_true.mpr fun _ _ => rfl
    · rw [inV_S]
      exact q
  refine comp_str keysT (fun rest acc H4 => ∃ done, keysT = done ++ rest ∧ acc = ((done.filter fun c => (ks.map fun c => [c]).contains [c]).map fun c => S [c]).map V.str ∧ Same H3 H4) (by decide) ⟨[], rfl, rfl, same_new hL2⟩ upd_same ?_ ?_
  · rintro i c r acc H4 hA hn hi ⟨done, e, rfl, s4⟩
    simp only [wipe, List.map_cons, List.map_nil, List.set_cons_succ, List.set_cons_zero, tSeq, tAsg, tAnd, tOr, tNot, tTest, tB, tOp, tUn, tCB, tCons, tNil, tVar, tC, gName, rI0, rI, rU, rEq, rNe, rIxS, rIxL, rIxT, tRet, tRetN, tTup, tLst, tSl, tPart, tNoPart, rSlS, tIf, tIfS, tNext, tDrop, tCall, tBM, tBM0, tAndV, tOrV, tNotV, tM0, tM1, gSub, rSetL, sFld, gCons_eq, gNil_eq, tCallS_eq, tDGet, sDPut, tMeth, tMake, tFld, tChain, tIsN, tNotN,
  List.set_cons_zero, List.set_cons_succ, exists_eq_left', exists_eq_left, exists_eq, V.int.injEq, V.str.injEq, V.bl.injEq, V.ref.injEq, List.cons.injEq, and_true, true_and, List.getElem?_cons_zero, List.getElem?_cons_succ, Option.some.injEq, List.append_nil, exists_and_left, cxOf_K, false_and, and_false, exists_false, false_or, or_false, exists_eq', exists_const, sg_eq, S_eq, S_toList, S_ne, tFor_eq, tLc_eq, iList_eq, iTup_eq, iRng1_eq, iStr_eq, decide_eq_true_eq, Bool.not_eq_true', decide_eq_false_iff_not, if_true, if_false, Bool.false_eq_true, reduceCtorEq, Bool.true_eq_false, decide_true, decide_false]
    refine hin [c] s4 ⟨_, rfl, ?_⟩
    cases hc : (ks.map fun c => [c]).contains [c] with
    | true =>
      simp only [Bool.false_eq_true, if_false, if_true]
      refine cput hA hn hi ⟨done ++ [c], by rw [e]; simp, ?_, same_mut s4 hL2⟩
      rw [List.filter_append, show [c].filter (fun c => (ks.map fun c => [c]).contains [c]) = [c] from by simp only [List.filter, hc]]
      simp
    | false =>
      simp only [Bool.false_eq_true, if_false]
      refine cskip hA hn ⟨done ++ [c], by rw [e]; simp, ?_, s4⟩
      rw [List.filter_append, show [c].filter (fun c => (ks.map fun c => [c]).contains [c]) = [] from by simp only [List.filter, hc]]
      simp
  rintro acc H4 hA hn ⟨done, e, rfl, s4⟩
  rw [List.append_nil] at e
  subst e
  have hpl : (pressT (ks.map fun c => [c])).length ≤ 10 := List.length_filter_le (fun c => (ks.map fun c => [c]).contains [c]) keysT
  refine ⟨L2, rfl, _, .inl (sq_of hA), signs_size _ (Nat.le_trans hpl (by decide)), ?_⟩
  rw [join_signs]
  have B4 := B3.same s4
  -- from here on: the keys ts at L, the due text
  refine if_fin (fun σ' H' => ∃ (G5 : Hp) (ts : List Tx), σ' = [some (.ref a), some (.ref b), some (.ref L), some (.str (S (if pressOk ts then pressT ts else []))), none, none, none, none, none, none] ∧ Bx b G5 H' ∧ G5 L = some (.lst (ts.map fun t => V.str (S t))) ∧ ts.length ≤ 20 ∧ ∀ t ∈ ts, asc t ∧ t.length ≤ 100) ?_ ?_
  rotate_left
  · intro nx fin
    simp only [tSeq, tAsg, tAnd, tOr, tNot, tTest, tB, tOp, tUn, tCB, tCons, tNil, tVar, tC, gName, rI0, rI, rU, rEq, rNe, rIxS, rIxL, rIxT, tRet, tRetN, tTup, tLst, tSl, tPart, tNoPart, rSlS, tIf, tIfS, tNext, tDrop, tCall, tBM, tBM0, tAndV, tOrV, tNotV, tM0, tM1, gSub, rSetL, sFld, gCons_eq, gNil_eq, tCallS_eq, tDGet, sDPut, tMeth, tMake, tFld, tChain, tIsN, tNotN,
  List.set_cons_zero, List.set_cons_succ, exists_eq_left', exists_eq_left, exists_eq, V.int.injEq, V.str.injEq, V.bl.injEq, V.ref.injEq, List.cons.injEq, and_true, true_and, List.getElem?_cons_zero, List.getElem?_cons_succ, Option.some.injEq, List.append_nil, exists_and_left, cxOf_K, false_and, and_false, exists_false, false_or, or_false, exists_eq', exists_const, sg_eq, S_eq, S_toList, S_ne, tFor_eq, tLc_eq, iList_eq, iTup_eq, iRng1_eq, iStr_eq, decide_eq_true_eq, Bool.not_eq_true', decide_eq_false_iff_not, if_true, if_false, Bool.false_eq_true, reduceCtorEq, Bool.true_eq_false, decide_true, decide_false]
    refine take_ B4 (by decide) (by decide) fun r2 H5 hr2 B5 => ⟨rfl, ite2 (fun _ => ?_) (fun _ => ?_)⟩
    · have hLk := B5.ex _ _ hl3'
      refine ⟨.inl ⟨rfl, _, sq_of hLk⟩, _, .inl (sq_of hLk), ?_⟩
      have hkl : (((ks.map fun c => [c]).map fun t => V.str (S t)).length : Int) + 1 = ((ks.length + 1 : Nat) : Int) := by
        rw [List.length_map, List.length_map]
        rfl
      rw [hkl]
      refine take_ B5 (by omega) (by omega) fun r3 H6 hr3 B6 => ⟨(size_le (by simp only [List.length_cons, List.length_nil]; decide)), ?_⟩
      (intro p1 np1; generalize hqp1 : upd _ p1 _ = H7; obtain ⟨G7, gp1, e7, B7, f7⟩ := alB_ B6 np1 hqp1; clear hqp1 np1)
      refine take_ B7 (by decide) (by decide) fun r4 H8 hr4 B8 => ?_
      obtain ⟨bd, ebd, hg, hb, hbl⟩ : ∃ bd : Tx, atI [V.str (S [107]), V.str (S []), V.str (S [97, 98]), V.str (S [65]), V.str (S [32])] (r4 : Int) = some (.str (S bd)) ∧ goodK bd = false ∧ asc bd ∧ bd.length ≤ 2 := by
        match r4, hr4 with
        | 0, _ => exact ⟨_, rfl, by decide, asc_of rfl, by decide⟩
        | 1, _ => exact ⟨_, rfl, by decide, asc_of rfl, by decide⟩
        | 2, _ => exact ⟨_, rfl, by decide, asc_of rfl, by decide⟩
        | 3, _ => exact ⟨_, rfl, by decide, asc_of rfl, by decide⟩
        | 4, _ => exact ⟨_, rfl, by decide, asc_of rfl, by decide⟩
        | n + 5, h => exact absurd h (by omega)
      have f8 := e7 _ _ hl3'
      refine ⟨_, _, rfl, sq_of (B8.ex _ _ f7), _, ebd, _, _, _, ⟨rfl, rfl⟩, B8.ex _ _ f8, size_lt (by rw [List.length_map, List.length_map]; omega), by omega, by omega, ?_⟩
      rw [Int.toNat_natCast]
      refine fin _ _ ⟨_, (ks.map fun c => [c]).take r3 ++ [bd] ++ (ks.map fun c => [c]).drop r3, ?_, B8.put f8, ?_, ?_, fun t ht => ?_⟩
      · have h0 : pressOk ((ks.map fun c => [c]).take r3 ++ [bd] ++ (ks.map fun c => [c]).drop r3) = false := by
          have : ((ks.map fun c => [c]).take r3 ++ [bd] ++ (ks.map fun c => [c]).drop r3).all goodK = false := by
            rw [List.all_eq_false]
            exact ⟨bd, by simp, by rw [hg]; decide⟩
          rw [pressOk, this, Bool.and_false]
        rw [h0]
        rfl
      · rw [upd_same, List.map_append, List.map_append, List.map_take, List.map_drop]
        rfl
      · rw [List.length_append, List.length_append, List.length_take, List.length_drop, List.length_map, List.length_singleton]
        omega
      · have hk1 : ∀ t ∈ ks.map (fun c => [c]), asc t ∧ t.length ≤ 100 := fun t ht => by
          obtain ⟨c, hc, rfl⟩ := List.mem_map.mp ht
          exact ⟨fun x hx => by rw [List.mem_singleton.mp hx]; exact kasc c hc, by show 1 ≤ 100; decide⟩
        rcases List.mem_append.mp ht with h | h
        · rcases List.mem_append.mp h with h | h
          · exact hk1 t (List.mem_of_mem_take h)
          · rw [List.mem_singleton.mp h]
            exact ⟨hb, by omega⟩
        · exact hk1 t (List.mem_of_mem_drop h)
    · refine fin _ _ ⟨G3, ks.map fun c => [c], ?_, B5, hl3', by rw [List.length_map]; omega, fun t ht => ?_⟩
      · have : (if pressOk (ks.map fun c => [c]) then pressT (ks.map fun c => [c]) else []) = pressT (ks.map fun c => [c]) := by
          cases hp : pressOk (ks.map fun c => [c]) with
          | true => rfl
          | false =>
            have h0 := press_all hkk
            rw [hp] at h0
            cases hq : pressT (ks.map fun c => [c]) with
            | nil => rfl
            | cons x y =>
              rw [hq] at h0
              cases h0
        rw [this]
        rfl
      · obtain ⟨c, hc, rfl⟩ := List.mem_map.mp ht
        exact ⟨fun x hx => by rw [List.mem_singleton.mp hx]; exact kasc c hc, by show 1 ≤ 100; decide⟩
  rintro σ H5 ⟨G5, ts, rfl, B5, hl5, hts, htt⟩
  try simp only [tSeq, tAsg, tAnd, tOr, tNot, tTest, tB, tOp, tUn, tCB, tCons, tNil, tVar, tC, gName, rI0, rI, rU, rEq, rNe, rIxS, rIxL, rIxT, tRet, tRetN, tTup, tLst, tSl, tPart, tNoPart, rSlS, tIf, tNext, tDrop, tCall, tBM, tBM0, tAndV, tOrV, tNotV, tM0, tM1, gSub, rSetL, sFld, gCons_eq, gNil_eq, tCallS_eq, tDGet, sDPut, tMeth, tMake, tFld, tChain, tIsN, tNotN,
  List.set_cons_zero, List.set_cons_succ, exists_eq_left', exists_eq_left, exists_eq, V.int.injEq, V.str.injEq, V.bl.injEq, V.ref.injEq, List.cons.injEq, and_true, true_and, List.getElem?_cons_zero, List.getElem?_cons_succ, Option.some.injEq, List.append_nil, exists_and_left, cxOf_K, false_and, and_false, exists_false, false_or, or_false, exists_eq', exists_const, sg_eq, S_eq, S_toList, S_ne, tFor_eq, tLc_eq, iList_eq, iTup_eq, iRng1_eq, iStr_eq, decide_eq_true_eq, Bool.not_eq_true', decide_eq_false_iff_not, if_true, if_false, Bool.false_eq_true, reduceCtorEq, Bool.true_eq_false, decide_true, decide_false]
  refine ⟨_, .inl (sq_of (B5.ex _ _ hl5)), ?_⟩
  (intro l nl; generalize hql : upd _ l _ = H6; obtain ⟨G6, gl, e6, B6, f6⟩ := alB_ B5 nl hql; clear hql nl)
  refine if_fin (fun σ' H' => ∃ (G7 : Hp) (v : V), σ' = [some (.ref a), some (.ref b), some (.ref L), some v, some (.ref l), none, none, none, none, none] ∧ Same G6 G7 ∧ Bx b G7 H' ∧ Dp K G7 v (if pressOk ts then .str (S (pressT ts)) else badD)) ?_ ?_
  rotate_left
  · intro nx fin
    simp only [tSeq, tAsg, tAnd, tOr, tNot, tTest, tB, tOp, tUn, tCB, tCons, tNil, tVar, tC, gName, rI0, rI, rU, rEq, rNe, rIxS, rIxL, rIxT, tRet, tRetN, tTup, tLst, tSl, tPart, tNoPart, rSlS, tIf, tIfS, tNext, tDrop, tCall, tBM, tBM0, tAndV, tOrV, tNotV, tM0, tM1, gSub, rSetL, sFld, gCons_eq, gNil_eq, tCallS_eq, tDGet, sDPut, tMeth, tMake, tFld, tChain, tIsN, tNotN,
  List.set_cons_zero, List.set_cons_succ, exists_eq_left', exists_eq_left, exists_eq, V.int.injEq, V.str.injEq, V.bl.injEq, V.ref.injEq, List.cons.injEq, and_true, true_and, List.getElem?_cons_zero, List.getElem?_cons_succ, Option.some.injEq, List.append_nil, exists_and_left, cxOf_K, false_and, and_false, exists_false, false_or, or_false, exists_eq', exists_const, sg_eq, S_eq, S_toList, S_ne, tFor_eq, tLc_eq, iList_eq, iTup_eq, iRng1_eq, iStr_eq, decide_eq_true_eq, Bool.not_eq_true', decide_eq_false_iff_not, if_true, if_false, Bool.false_eq_true, reduceCtorEq, Bool.true_eq_false, decide_true, decide_false]
    refine ⟨rfl, ite2 (fun h => ⟨(size_le (by simp only [List.length_cons, List.length_nil]; decide)), ?_⟩) (fun h => ?_)⟩
    · (intro p2 np2; generalize hqp2 : upd _ p2 _ = H7; obtain ⟨G7, gp2, e7, B7, f7⟩ := alB_ B6 np2 hqp2; clear hqp2 np2)
      refine fin _ _ ⟨G7, _, rfl, e7, B7, ?_⟩
      have : pressOk ts = false := by
        cases hp : pressOk ts with
        | false => rfl
        | true =>
          rw [hp] at h
          have h2 : pressT ts = [] := h
          rw [pressOk, h2] at hp
          cases hp
      rw [this]
      exact .tup (st_of f7) (.cons (.str _) (.cons (.bl true) .nil))
    · refine fin _ _ ⟨G6, _, rfl, Same.refl _, B6, ?_⟩
      have : pressOk ts = true := by
        cases hp : pressOk ts with
        | true => rfl
        | false =>
          rw [hp] at h
          exact absurd rfl h
      rw [this]
      exact .str _
  rintro σ H7 ⟨G7, dv, rfl, s67, B7, hdv⟩
  try simp only [tSeq, tAsg, tAnd, tOr, tNot, tTest, tB, tOp, tUn, tCB, tCons, tNil, tVar, tC, gName, rI0, rI, rU, rEq, rNe, rIxS, rIxL, rIxT, tRet, tRetN, tTup, tLst, tSl, tPart, tNoPart, rSlS, tIf, tNext, tDrop, tCall, tBM, tBM0, tAndV, tOrV, tNotV, tM0, tM1, gSub, rSetL, sFld, gCons_eq, gNil_eq, tCallS_eq, tDGet, sDPut, tMeth, tMake, tFld, tChain, tIsN, tNotN,
  List.set_cons_zero, List.set_cons_succ, exists_eq_left', exists_eq_left, exists_eq, V.int.injEq, V.str.injEq, V.bl.injEq, V.ref.injEq, List.cons.injEq, and_true, true_and, List.getElem?_cons_zero, List.getElem?_cons_succ, Option.some.injEq, List.append_nil, exists_and_left, cxOf_K, false_and, and_false, exists_false, false_or, or_false, exists_eq', exists_const, sg_eq, S_eq, S_toList, S_ne, tFor_eq, tLc_eq, iList_eq, iTup_eq, iRng1_eq, iStr_eq, decide_eq_true_eq, Bool.not_eq_true', decide_eq_false_iff_not, if_true, if_false, Bool.false_eq_true, reduceCtorEq, Bool.true_eq_false, decide_true, decide_false]
  have okd : okD 6 (if pressOk ts then .str (S (pressT ts)) else badD) := by
    split
    · exact asc_ok fun c hc => by
        have := (List.mem_filter.mp hc).1
        exact of_decide_eq_true (List.all_eq_true.mp (show keysT.all (fun c => decide (c < 128)) = true from rfl) c this)
    · exact ⟨by decide, fun d hd => by
        simp only [List.mem_cons, List.not_mem_nil, or_false] at hd
        rcases hd with rfl | rfl
        · exact asc_ok (asc_of rfl)
        · trivial⟩
  have okts : ∀ ts : List Tx, ts.length ≤ 20 → (∀ t ∈ ts, asc t) → okD 3 (.list (ts.map fun t => PyData.str (S t))) := fun ts h1 h2 => ⟨by rw [List.length_map]; omega, fun d hd => by
    obtain ⟨t, ht, rfl⟩ := List.mem_map.mp hd
    exact asc_ok (h2 t ht)⟩
  have dts : ∀ {H' : Hp} {p : Addr}, H' p = some (.lst (ts.map fun t => V.str (S t))) → Dp K H' (.ref p) (.list (ts.map fun t => PyData.str (S t))) := fun {H' p} h => by
    have e5 := dp_strs (K := K) (H := H') (ts.map fun t => S t)
    rw [List.map_map, List.map_map] at e5
    exact .lst (sq_of h) e5
  refine if_new false (fun R rr => ?_) (fun z => nomatch z) (fun _ H8 s8 => ?_)
  · simp only [tSeq, tAsg, tAnd, tOr, tNot, tTest, tB, tOp, tUn, tCB, tCons, tNil, tVar, tC, gName, rI0, rI, rU, rEq, rNe, rIxS, rIxL, rIxT, tRet, tRetN, tTup, tLst, tSl, tPart, tNoPart, rSlS, tIf, tIfS, tNext, tDrop, tCall, tBM, tBM0, tAndV, tOrV, tNotV, tM0, tM1, gSub, rSetL, sFld, gCons_eq, gNil_eq, tCallS_eq, tDGet, sDPut, tMeth, tMake, tFld, tChain, tIsN, tNotN,
  List.set_cons_zero, List.set_cons_succ, exists_eq_left', exists_eq_left, exists_eq, V.int.injEq, V.str.injEq, V.bl.injEq, V.ref.injEq, List.cons.injEq, and_true, true_and, List.getElem?_cons_zero, List.getElem?_cons_succ, Option.some.injEq, List.append_nil, exists_and_left, cxOf_K, false_and, and_false, exists_false, false_or, or_false, exists_eq', exists_const, sg_eq, S_eq, S_toList, S_ne, tFor_eq, tLc_eq, iList_eq, iTup_eq, iRng1_eq, iStr_eq, decide_eq_true_eq, Bool.not_eq_true', decide_eq_false_iff_not, if_true, if_false, Bool.false_eq_true, reduceCtorEq, Bool.true_eq_false, decide_true, decide_false]
    have f7l := s67 _ _ f6
    have f7L := s67 _ _ (e6 _ _ hl5)
    refine .inl ⟨l, ts, rfl, sq_of (B7.ex _ _ f7l), htt, by omega, fun v H8 s8 d8 => ?_⟩
    refine ⟨v, dv, _, rfl, d8, Dp.ext (B7.1.trans s8) hdv, okd, true, rfl, ?_⟩
    rw [if_neg (fun z => nomatch z)]
    have hl8 := s8 _ _ (B7.ex _ _ f7l)
    have hL8 := s8 _ _ (B7.ex _ _ f7L)
    have ok3 := okts ts hts fun t h => (htt t h).1
    refine ⟨_, _, dts hl8, dts hL8, ok3.shaped (by decide), ok3.shaped (by decide), _, rfl, ?_⟩
    rw [ok3.eqv]
    exact rr _ s8
  try simp only [tSeq, tAsg, tAnd, tOr, tNot, tTest, tB, tOp, tUn, tCB, tCons, tNil, tVar, tC, gName, rI0, rI, rU, rEq, rNe, rIxS, rIxL, rIxT, tRet, tRetN, tTup, tLst, tSl, tPart, tNoPart, rSlS, tIf, tNext, tDrop, tCall, tBM, tBM0, tAndV, tOrV, tNotV, tM0, tM1, gSub, rSetL, sFld, gCons_eq, gNil_eq, tCallS_eq, tDGet, sDPut, tMeth, tMake, tFld, tChain, tIsN, tNotN,
  List.set_cons_zero, List.set_cons_succ, exists_eq_left', exists_eq_left, exists_eq, V.int.injEq, V.str.injEq, V.bl.injEq, V.ref.injEq, List.cons.injEq, and_true, true_and, List.getElem?_cons_zero, List.getElem?_cons_succ, Option.some.injEq, List.append_nil, exists_and_left, cxOf_K, false_and, and_false, exists_false, false_or, or_false, exists_eq', exists_const, sg_eq, S_eq, S_toList, S_ne, tFor_eq, tLc_eq, iList_eq, iTup_eq, iRng1_eq, iStr_eq, decide_eq_true_eq, Bool.not_eq_true', decide_eq_false_iff_not, if_true, if_false, Bool.false_eq_true, reduceCtorEq, Bool.true_eq_false, decide_true, decide_false]
  have B8 := B7.same s8
  refine take_ B8 (by decide) (by decide) fun r5 H9 hr5 B9 => ?_
  simp only [tSeq, tAsg, tAnd, tOr, tNot, tTest, tB, tOp, tUn, tCB, tCons, tNil, tVar, tC, gName, rI0, rI, rU, rEq, rNe, rIxS, rIxL, rIxT, tRet, tRetN, tTup, tLst, tSl, tPart, tNoPart, rSlS, tIf, tNext, tDrop, tCall, tBM, tBM0, tAndV, tOrV, tNotV, tM0, tM1, gSub, rSetL, sFld, gCons_eq, gNil_eq, tCallS_eq, tDGet, sDPut, tMeth, tMake, tFld, tChain, tIsN, tNotN,
  List.set_cons_zero, List.set_cons_succ, exists_eq_left', exists_eq_left, exists_eq, V.int.injEq, V.str.injEq, V.bl.injEq, V.ref.injEq, List.cons.injEq, and_true, true_and, List.getElem?_cons_zero, List.getElem?_cons_succ, Option.some.injEq, List.append_nil, exists_and_left, cxOf_K, false_and, and_false, exists_false, false_or, or_false, exists_eq', exists_const, sg_eq, S_eq, S_toList, S_ne, tFor_eq, tLc_eq, iList_eq, iTup_eq, iRng1_eq, iStr_eq, decide_eq_true_eq, Bool.not_eq_true', decide_eq_false_iff_not, if_true, if_false, Bool.false_eq_true, reduceCtorEq, Bool.true_eq_false, decide_true, decide_false]
  refine ⟨by omega, by omega, fun L3 hL3 => ?_⟩
  have ez : (1 + (r5 : Int)).toNat = 1 + r5 := by omega
  rw [ez]
  refine comp_draw (fun v _ => ∃ n : Nat, 1 ≤ n ∧ n ≤ 1023 ∧ v = .str (S (strokeT n))) (fun _ _ _ _ h => h) (by omega) B9 hL3 (fun _ => rfl) (fun i G' H' Q' hi s1 B1 q => ?_) (fun acc G10 H10 s10 B10 hl10 hlen hp => ?_)
  · simp only [wipe, List.map_cons, List.map_nil, List.set_cons_succ, List.set_cons_zero, tSeq, tAsg, tAnd, tOr, tNot, tTest, tB, tOp, tUn, tCB, tCons, tNil, tVar, tC, gName, rI0, rI, rU, rEq, rNe, rIxS, rIxL, rIxT, tRet, tRetN, tTup, tLst, tSl, tPart, tNoPart, rSlS, tIf, tIfS, tNext, tDrop, tCall, tBM, tBM0, tAndV, tOrV, tNotV, tM0, tM1, gSub, rSetL, sFld, gCons_eq, gNil_eq, tCallS_eq, tDGet, sDPut, tMeth, tMake, tFld, tChain, tIsN, tNotN,
  List.set_cons_zero, List.set_cons_succ, exists_eq_left', exists_eq_left, exists_eq, V.int.injEq, V.str.injEq, V.bl.injEq, V.ref.injEq, List.cons.injEq, and_true, true_and, List.getElem?_cons_zero, List.getElem?_cons_succ, Option.some.injEq, List.append_nil, exists_and_left, cxOf_K, false_and, and_false, exists_false, false_or, or_false, exists_eq', exists_const, sg_eq, S_eq, S_toList, S_ne, tFor_eq, tLc_eq, iList_eq, iTup_eq, iRng1_eq, iStr_eq, decide_eq_true_eq, Bool.not_eq_true', decide_eq_false_iff_not, if_true, if_false, Bool.false_eq_true, reduceCtorEq, Bool.true_eq_false, decide_true, decide_false]
    exact stroke_ B1 fun n H2 h1 h2 B2 => q _ _ _ (Same.refl _) B2 ⟨n, h1, h2, rfl⟩
  obtain ⟨ns, hnl, hns, eacc⟩ : ∃ ns : List Nat, ns.length = acc.length ∧ (∀ n ∈ ns, 1 ≤ n ∧ n ≤ 1023) ∧ acc = ((ns.map strokeT).map SX.S).map V.str := by
    clear hl10 hlen
    induction acc with
    | nil => exact ⟨[], rfl, fun _ h => (nomatch h), rfl⟩
    | cons v r ih =>
      obtain ⟨ns, h1, h2, h3⟩ := ih fun v hv => hp v (List.mem_cons_of_mem _ hv)
      obtain ⟨n, h4, h5, h6⟩ := hp v List.mem_cons_self
      refine ⟨n :: ns, by rw [List.length_cons, List.length_cons, h1], fun m hm => ?_, by rw [h6, h3]; rfl⟩
      rcases List.mem_cons.mp hm with h | h
      · rw [h]
        exact ⟨h4, h5⟩
      · exact h2 m h
  subst eacc
  have hrl : (ns.map strokeT).length = 1 + r5 := by rw [List.length_map, hnl, hlen]
  have hr : ∀ t ∈ ns.map strokeT, 47 ∉ t ∧ asc t ∧ t.length ≤ 100 ∧ strokeOk t = true := fun t ht => by
    obtain ⟨n, hn, rfl⟩ := List.mem_map.mp ht
    obtain ⟨h1, h2⟩ := hns n hn
    exact ⟨stroke_no n, stroke_asc n, Nat.le_trans (stroke_ok n (by omega) h1).2 (by decide), strokeOk_T n (by omega) h1⟩
  have hr10 : ∀ t ∈ ns.map strokeT, t.length ≤ 10 := fun t ht => by
    obtain ⟨n, hn, rfl⟩ := List.mem_map.mp ht
    obtain ⟨h1, h2⟩ := hns n hn
    exact (stroke_ok n (by omega) h1).2
  generalize ns.map strokeT = r at hl10 hrl hr hr10
  have hrne : r ≠ [] := fun h => by
    rw [h] at hrl
    exact absurd hrl (by rw [List.length_nil]; omega)
  have hrok : rowOk r = true := by
    rw [rowOk, decide_eq_true (by omega), Bool.true_and]
    exact List.all_eq_true.mpr fun t ht => (hr t ht).2.2.2
  have hrasc : asc (rowT r) := rowT_asc r fun t h => (hr t h).2.1
  have hrlen := rowT_len r fun t h => (hr t h).2.2.1
  refine ⟨L3, rfl, _, .inl ⟨sq_of (B10.ex _ _ hl10), ?_⟩⟩
  (intro q nq; generalize hqq : upd _ q _ = H11; obtain ⟨G11, gq, e11, B11, f11⟩ := alB_ B10 nq hqq; clear hqq nq)
  refine ⟨r.map SX.S, .inr (st_of (B11.ex _ _ f11)), ?_, ?_⟩
  · have h1 := sum_len r fun t h => (hr t h).2.2.1
    have h3 : (S [47]).length = 1 := rfl
    rw [h3, List.length_map]
    omega
  rw [join_row]
  have okr : okD 6 (rowD r) := ⟨by rw [List.length_map]; omega, fun d hd => by
    obtain ⟨t, ht, rfl⟩ := List.mem_map.mp hd
    exact asc_ok (hr t ht).2.1⟩
  have drow : ∀ {H' : Hp}, Same G11 H' → Dp K H' (.ref q) (rowD r) := fun {H'} s' => by
    have := dp_strs (K := K) (H := H') (r.map SX.S)
    rw [List.map_map (f := SX.S) (g := PyData.str)] at this
    exact .tup (st_of (s' _ _ f11)) this
  refine if_new false (fun R rr => ?_) (fun z => nomatch z) (fun _ H12 s12 => ?_)
  · simp only [tSeq, tAsg, tAnd, tOr, tNot, tTest, tB, tOp, tUn, tCB, tCons, tNil, tVar, tC, gName, rI0, rI, rU, rEq, rNe, rIxS, rIxL, rIxT, tRet, tRetN, tTup, tLst, tSl, tPart, tNoPart, rSlS, tIf, tIfS, tNext, tDrop, tCall, tBM, tBM0, tAndV, tOrV, tNotV, tM0, tM1, gSub, rSetL, sFld, gCons_eq, gNil_eq, tCallS_eq, tDGet, sDPut, tMeth, tMake, tFld, tChain, tIsN, tNotN,
  List.set_cons_zero, List.set_cons_succ, exists_eq_left', exists_eq_left, exists_eq, V.int.injEq, V.str.injEq, V.bl.injEq, V.ref.injEq, List.cons.injEq, and_true, true_and, List.getElem?_cons_zero, List.getElem?_cons_succ, Option.some.injEq, List.append_nil, exists_and_left, cxOf_K, false_and, and_false, exists_false, false_or, or_false, exists_eq', exists_const, sg_eq, S_eq, S_toList, S_ne, tFor_eq, tLc_eq, iList_eq, iTup_eq, iRng1_eq, iStr_eq, decide_eq_true_eq, Bool.not_eq_true', decide_eq_false_iff_not, if_true, if_false, Bool.false_eq_true, reduceCtorEq, Bool.true_eq_false, decide_true, decide_false]
    refine ⟨q, r, rfl, st_of (B11.ex _ _ f11), by omega, fun t h => (hr t h).2.2.1, ?_⟩
    refine ⟨_, _, .str (S (rowT r)), rfl, .str _, .str _, asc_ok hrasc, true, rfl, ?_⟩
    rw [if_neg (fun z => nomatch z)]
    refine .inr ⟨r, rfl, hrne, fun t h => ⟨(hr t h).1, (hr t h).2.1, (hr t h).2.2.1⟩, by omega, fun v H12 s12 d12 => ?_⟩
    rw [if_pos hrok] at d12
    refine ⟨v, .ref q, rowD r, rfl, d12, drow (B11.1.trans s12), okr, true, rfl, ?_⟩
    exact rr _ s12
  simp only [tSeq, tAsg, tAnd, tOr, tNot, tTest, tB, tOp, tUn, tCB, tCons, tNil, tVar, tC, gName, rI0, rI, rU, rEq, rNe, rIxS, rIxL, rIxT, tRet, tRetN, tTup, tLst, tSl, tPart, tNoPart, rSlS, tIf, tNext, tDrop, tCall, tBM, tBM0, tAndV, tOrV, tNotV, tM0, tM1, gSub, rSetL, sFld, gCons_eq, gNil_eq, tCallS_eq, tDGet, sDPut, tMeth, tMake, tFld, tChain, tIsN, tNotN,
  List.set_cons_zero, List.set_cons_succ, exists_eq_left', exists_eq_left, exists_eq, V.int.injEq, V.str.injEq, V.bl.injEq, V.ref.injEq, List.cons.injEq, and_true, true_and, List.getElem?_cons_zero, List.getElem?_cons_succ, Option.some.injEq, List.append_nil, exists_and_left, cxOf_K, false_and, and_false, exists_false, false_or, or_false, exists_eq', exists_const, sg_eq, S_eq, S_toList, S_ne, tFor_eq, tLc_eq, iList_eq, iTup_eq, iRng1_eq, iStr_eq, decide_eq_true_eq, Bool.not_eq_true', decide_eq_false_iff_not, if_true, if_false, Bool.false_eq_true, reduceCtorEq, Bool.true_eq_false, decide_true, decide_false]
  have em : Txt.mul (S [47, 97]) 6 = S [47, 97, 47, 97, 47, 97, 47, 97, 47, 97, 47, 97] := by decide +kernel
  have B12 := B11.same s12
  refine ⟨by decide, by decide, by decide, (size_le (by simp only [List.length_cons, List.length_nil]; decide)), ?_⟩
  rw [em]
  (intro p5 np5; generalize hqp5 : upd _ p5 _ = H13; obtain ⟨G13, gp5, e13, B13, f13⟩ := alB_ B12 np5 hqp5; clear hqp5 np5)
  refine take_ B13 (by decide) (by decide) fun r6 H14 hr6 B14 => ?_
  obtain ⟨sfx, parts, es, ep, hpn, hpt, hpl, hpb, hsl⟩ : ∃ sfx parts, atI [V.str (S [47]), V.str (S [47, 98, 97]), V.str (S [47, 97, 97]), V.str (S [47, 97, 47, 97, 47, 97, 47, 97, 47, 97, 47, 97]), V.str (S [32]), V.str (S [47, 107])] (r6 : Int) = some (.str (S sfx)) ∧ rowT r ++ sfx = rowT parts ∧ parts ≠ [] ∧ (∀ t ∈ parts, 47 ∉ t ∧ asc t ∧ t.length ≤ 100) ∧ parts.length ≤ 100 ∧ rowOk parts = false ∧ sfx.length ≤ 12 := by
    have hr3 : ∀ t ∈ r, 47 ∉ t ∧ asc t ∧ t.length ≤ 100 := fun t h => ⟨(hr t h).1, (hr t h).2.1, (hr t h).2.2.1⟩
    have one : ∀ x : Tx, strokeOk x = false → (47 ∉ x ∧ asc x ∧ x.length ≤ 100) → rowT r ++ 47 :: x = rowT (r ++ [x]) ∧ r ++ [x] ≠ [] ∧ (∀ t ∈ r ++ [x], 47 ∉ t ∧ asc t ∧ t.length ≤ 100) ∧ (r ++ [x]).length ≤ 100 ∧ rowOk (r ++ [x]) = false := fun x hx hx2 =>
      ⟨(rowT_snoc r x hrne).symm, by simp, fun t ht => by
        rcases List.mem_append.mp ht with h | h
        · exact hr3 t h
        · rw [List.mem_singleton.mp h]
          exact hx2, by rw [List.length_append, List.length_singleton]; omega, rowOk_bad hx⟩
    match r6, hr6 with
    | 0, _ =>
      obtain ⟨h1, h2, h3, h4, h5⟩ := one [] rfl ⟨by decide, asc_of rfl, by decide⟩
      exact ⟨[47], _, rfl, h1, h2, h3, h4, h5, by decide⟩
    | 1, _ =>
      obtain ⟨h1, h2, h3, h4, h5⟩ := one [98, 97] (by decide) ⟨by decide, asc_of rfl, by decide⟩
      exact ⟨[47, 98, 97], _, rfl, h1, h2, h3, h4, h5, by decide⟩
    | 2, _ =>
      obtain ⟨h1, h2, h3, h4, h5⟩ := one [97, 97] (by decide) ⟨by decide, asc_of rfl, by decide⟩
      exact ⟨[47, 97, 97], _, rfl, h1, h2, h3, h4, h5, by decide⟩
    | 3, _ =>
      refine ⟨[47, 97, 47, 97, 47, 97, 47, 97, 47, 97, 47, 97], (((((r ++ [[97]]) ++ [[97]]) ++ [[97]]) ++ [[97]]) ++ [[97]]) ++ [[97]], rfl, ?_, by simp, fun t ht => ?_, by simp; omega, ?_, by decide⟩
      · rw [rowT_snoc _ _ (by simp), rowT_snoc _ _ (by simp), rowT_snoc _ _ (by simp), rowT_snoc _ _ (by simp), rowT_snoc _ _ (by simp), rowT_snoc _ _ hrne]
        simp
      · have h97 : 47 ∉ ([97] : Tx) ∧ asc [97] ∧ ([97] : Tx).length ≤ 100 := ⟨by decide, asc_of rfl, by decide⟩
        simp only [List.mem_append, List.mem_singleton] at ht
        rcases ht with (((((h | h) | h) | h) | h) | h) | h
        · exact hr3 t h
        all_goals
          rw [h]
          exact h97
      · rw [rowOk, decide_eq_false (by simp; omega), Bool.false_and]
    | 4, _ =>
      obtain ⟨ini, la, rfl⟩ : ∃ ini la, r = ini ++ [la] := by
        rcases List.eq_nil_or_concat r with h | ⟨u, d, h⟩
        · exact absurd h hrne
        · exact ⟨u, d, h.trans List.concat_eq_append⟩
      have hla := hr la (by simp)
      have hl10' : la.length + 1 ≤ 101 := by have := hla.2.2.1; omega
      refine ⟨[32], ini ++ [la ++ [32]], rfl, (rowT_last ini la [32]).symm, by simp, fun t ht => ?_, by rw [List.length_append, List.length_singleton] at hrl ⊢; omega, rowOk_bad (strokeOk_bad la), by decide⟩
      rcases List.mem_append.mp ht with h | h
      · exact hr3 t (List.mem_append_left _ h)
      · rw [List.mem_singleton.mp h]
        refine ⟨fun z => ?_, asc_app hla.2.1 (asc_of rfl), ?_⟩
        · rcases List.mem_append.mp z with z | z
          · exact hla.1 z
          · exact absurd z (by decide)
        · rw [List.length_append, List.length_singleton]
          have := hr10 la (by simp)
          omega
    | 5, _ =>
      obtain ⟨h1, h2, h3, h4, h5⟩ := one [107] (by decide) ⟨by decide, asc_of rfl, by decide⟩
      exact ⟨[47, 107], _, rfl, h1, h2, h3, h4, h5, by decide⟩
    | n + 6, h => exact absurd h (by omega)
  refine ⟨_, _, rfl, sq_of (B14.ex _ _ f13), _, es, _, rfl, size_le (by rw [S_len, S_len]; omega), ?_⟩
  rw [S_cat, ep]
  have badOk : okD 3 badD := ⟨by decide, fun d hd => by
    simp only [List.mem_cons, List.not_mem_nil, or_false] at hd
    rcases hd with rfl | rfl
    · exact asc_ok (asc_of rfl)
    · trivial⟩
  have badSh := badOk.shaped (by decide)
  have badNew : ∀ {H' : Hp} {p : Addr}, H' p = some (.tup [.str (S [98, 97, 100]), .bl true]) → Dp K H' (.ref p) badD := fun h => .tup (st_of h) (.cons (.str _) (.cons (.bl true) .nil))
  refine .inr ⟨parts, rfl, hpn, hpt, hpl, fun v H15 s15 d15 => ⟨(size_le (by simp only [List.length_cons, List.length_nil]; decide)), ?_⟩⟩
  rw [if_neg (by rw [hpb]; decide)] at d15
  (intro p6 np6; generalize hqp6 : upd H15 p6 _ = H16; obtain ⟨e16, f16⟩ := al_ np6 hqp6; clear hqp6)
  refine ⟨_, _, Dp.ext e16 d15, badNew f16, badSh, badSh, true, by rw [badOk.eqv], ?_⟩
  rw [if_pos rfl]
  refine .inr ⟨[[]], rfl, fun z => (nomatch z), fun t ht => ?_, by decide, fun v2 H17 s17 d17 => ⟨(size_le (by simp only [List.length_cons, List.length_nil]; decide)), ?_⟩⟩
  · rw [List.mem_singleton.mp ht]
    exact ⟨by decide, asc_of rfl, by decide⟩
  have hnb : rowOk [[]] = false := rfl
  rw [if_neg (by rw [hnb]; decide)] at d17
  (intro p7 np7; generalize hqp7 : upd H17 p7 _ = H18; obtain ⟨e18, f18⟩ := al_ np7 hqp7; clear hqp7)
  refine ⟨_, _, Dp.ext e18 d17, badNew f18, badSh, badSh, ?_⟩
  rw [badOk.eqv]
  exact k _
end
def d_l_begun : He.DefD := ⟨("_law_begun", none), "_law_begun", "_law_begun", defArgs s_l_begun, defBody s_l_begun, defScope s_l_begun, [], []⟩
def d_l_take : He.DefD := ⟨("_law_take", none), "_law_take", "_law_take", defArgs s_l_take, defBody s_l_take, defScope s_l_take, [], []⟩
def d_l_alike : He.DefD := ⟨("_law_alike", none), "_law_alike", "_law_alike", defArgs s_l_alike, defBody s_l_alike, defScope s_l_alike, [], []⟩
def d_pressed : He.DefD := ⟨("pressed", none), "pressed", "pressed", defArgs s_pressed, defBody s_pressed, defScope s_pressed, [], []⟩
def d_need_stroke : He.DefD := ⟨("need_stroke", none), "need_stroke", "need_stroke", defArgs s_need_stroke, defBody s_need_stroke, defScope s_need_stroke, [], []⟩
def d_read_row : He.DefD := ⟨("read_row", none), "read_row", "read_row", defArgs s_read_row, defBody s_read_row, defScope s_read_row, [], []⟩
def d_l_told : He.DefD := ⟨("_law_told", none), "_law_told", "_law_told", defArgs s_l_told, defBody s_l_told, defScope s_l_told, [], []⟩
def d_l_stroke : He.DefD := ⟨("_law_stroke", none), "_law_stroke", "_law_stroke", defArgs s_l_stroke, defBody s_l_stroke, defScope s_l_stroke, [], []⟩
def d_row_text : He.DefD := ⟨("row_text", none), "row_text", "row_text", defArgs s_row_text, defBody s_row_text, defScope s_row_text, [], []⟩
def d_law : He.DefD := ⟨("law", none), "law", "law", defArgs s_law, defBody s_law, defScope s_law, [], []⟩
def fn : List He.DefD := [d_l_begun, d_l_take, d_l_alike, d_pressed, d_need_stroke, d_read_row, d_l_told, d_l_stroke, d_row_text, d_law]
def fa : List He.Fa := [.glo "_law_begun", .glo "_law_take", .glo "_law_alike", .glo "pressed", .glo "need_stroke", .glo "read_row", .glo "_law_told", .glo "_law_stroke", .glo "row_text", .glo "law", .free "ValueError", .free "bool", .free "int", .free "isinstance", .free "len", .free "list", .free "range", .free "str", .free "tuple", .glo "ChordError", .exm "BadStroke" "ChordError" true, .glo "BadStroke", .exm "BadStroke" "BadStroke" true, .exc "BadStroke", .str "KEYS" (S [97, 98, 99, 100, 101, 102, 103, 104, 105, 106]), .int "MOST_ROW" 6]
abbrev R : PySem.W.OpenRow := PySem.W.OpenLaw.row PySem.Challenge.rw_chords_k02_pressed_and_rows
def exb (K : PySem.W.Frag) : Bool := exB K
abbrev hk : PySem.W.Hook := He.hookX 5 fa fn [] [] exb
def ob (s : PySem.W.SharedT) : He.AlX := He.obsX 5 fa fn [] [] exb (HandSHeadRun.getT s)
theorem ob_eq (s : PySem.W.SharedT) : ob s = hk.obs s.abs := He.obsX_eq (HandSHeadRun.getT_eq s)
theorem run (w : World) : HandSHeadRun.RunEq R (PySem.W.view R.prog [18]) hk ob 4000 ["ChordError", "BadStroke", "need_stroke", "pressed", "row_text", "read_row", "_law_begun", "_law_take", "_law_alike", "_law_stroke", "_law_pool", "_law_row", "_law_told", "KEYS", "MOST_ROW"] w := by
  intro os
  kernel_rfl
theorem facts {P : Program} {w : World} {K : PySem.W.Frag} {h : Heap} {mg : Str → Option Value} {f : Addr} (X : K.In h) (G : h.Ns mainGlobals mg) (hfa : mg ("law" : Str) = some (.ref f)) (c : He.SaysX fa fn [] [] exb w h K) :
    ∃ fd : FuncData, (∀ (s : Shared) (v : Value), BindsTo s fd ⟨[v], []⟩ [("_law_script", v)]) ∧ ∀ base : Heap, K.In base → base.Ns mainGlobals mg → FnOk P w K mg base CX0 20 f fd ["_law_script"] (sp_law K) := by
  have e := hfa.symm.trans (He.glo_ok X G (c.t.d.fact 9 (f := .glo "law") rfl))
  cases e
  obtain ⟨x1, x2, x3, x4⟩ := He.exc_ok (c.t.d.fact 23 (f := .exc "BadStroke") rfl)
  have xb := c.more
  have xb2 := (He.ba (show (excCB K (He.ga K "BadStroke") && _) = true from xb)).2
  simp only [Bool.and_eq_true, decide_eq_true_eq] at xb2
  obtain ⟨⟨q0, q1⟩, q2⟩ := xb2
  have ex : ExF K mg := { g_ChordError := He.glo_ok X G (c.t.d.fact 19 (f := .glo "ChordError") rfl), g_BadStroke := He.glo_ok X G (c.t.d.fact 21 (f := .glo "BadStroke") rfl), x_BadStroke := x1, k_BadStroke := x2, b_BadStroke := x3, t_BadStroke := x4, c_BadStroke := excCB_ok (He.ba (show (excCB K (He.ga K "BadStroke") && _) = true from xb)).1, m_ChordError := He.exm_ok (c.t.d.fact 20 (f := .exm "BadStroke" "ChordError" true) rfl), q_ChordError := q0, m_BadStroke := He.exm_ok (c.t.d.fact 22 (f := .exm "BadStroke" "BadStroke" true) rfl), q_BadStroke := q1, q_ValueError := q2 }
  obtain ⟨fd_l_begun, F_l_begun⟩ : ∃ fd, FunS K "_law_begun" s_l_begun (He.ga K "_law_begun") fd := c.t.d.def_ 0 (d := d_l_begun) rfl
  have m_l_begun : mg "_law_begun" = some (.ref _) := He.glo_ok X G (c.t.d.fact 0 (f := .glo "_law_begun") rfl)
  have n_l_begun := FunD.bindsN (ps := ["_law_script"]) F_l_begun fun _ _ _ _ _ _ us hl => match us, hl with | [_], _ => rfl
  obtain ⟨fd_l_take, F_l_take⟩ : ∃ fd, FunS K "_law_take" s_l_take (He.ga K "_law_take") fd := c.t.d.def_ 1 (d := d_l_take) rfl
  have m_l_take : mg "_law_take" = some (.ref _) := He.glo_ok X G (c.t.d.fact 1 (f := .glo "_law_take") rfl)
  have n_l_take := FunD.bindsN (ps := ["_law_box", "_law_many"]) F_l_take fun _ _ _ _ _ _ us hl => match us, hl with | [_, _], _ => rfl
  obtain ⟨fd_l_alike, F_l_alike⟩ : ∃ fd, FunS K "_law_alike" s_l_alike (He.ga K "_law_alike") fd := c.t.d.def_ 2 (d := d_l_alike) rfl
  have m_l_alike : mg "_law_alike" = some (.ref _) := He.glo_ok X G (c.t.d.fact 2 (f := .glo "_law_alike") rfl)
  have n_l_alike := FunD.bindsN (ps := ["_law_found", "_law_due"]) F_l_alike fun _ _ _ _ _ _ us hl => match us, hl with | [_, _], _ => rfl
  obtain ⟨fd_pressed, F_pressed⟩ : ∃ fd, FunS K "pressed" s_pressed (He.ga K "pressed") fd := c.t.d.def_ 3 (d := d_pressed) rfl
  have m_pressed : mg "pressed" = some (.ref _) := He.glo_ok X G (c.t.d.fact 3 (f := .glo "pressed") rfl)
  have n_pressed := FunD.bindsN (ps := ["keys"]) F_pressed fun _ _ _ _ _ _ us hl => match us, hl with | [_], _ => rfl
  obtain ⟨fd_need_stroke, F_need_stroke⟩ : ∃ fd, FunS K "need_stroke" s_need_stroke (He.ga K "need_stroke") fd := c.t.d.def_ 4 (d := d_need_stroke) rfl
  have m_need_stroke : mg "need_stroke" = some (.ref _) := He.glo_ok X G (c.t.d.fact 4 (f := .glo "need_stroke") rfl)
  have n_need_stroke := FunD.bindsN (ps := ["text"]) F_need_stroke fun _ _ _ _ _ _ us hl => match us, hl with | [_], _ => rfl
  obtain ⟨fd_read_row, F_read_row⟩ : ∃ fd, FunS K "read_row" s_read_row (He.ga K "read_row") fd := c.t.d.def_ 5 (d := d_read_row) rfl
  have m_read_row : mg "read_row" = some (.ref _) := He.glo_ok X G (c.t.d.fact 5 (f := .glo "read_row") rfl)
  have n_read_row := FunD.bindsN (ps := ["text"]) F_read_row fun _ _ _ _ _ _ us hl => match us, hl with | [_], _ => rfl
  obtain ⟨fd_l_told, F_l_told⟩ : ∃ fd, FunS K "_law_told" s_l_told (He.ga K "_law_told") fd := c.t.d.def_ 6 (d := d_l_told) rfl
  have m_l_told : mg "_law_told" = some (.ref _) := He.glo_ok X G (c.t.d.fact 6 (f := .glo "_law_told") rfl)
  have n_l_told := FunD.bindsN (ps := ["_law_way", "_law_value"]) F_l_told fun _ _ _ _ _ _ us hl => match us, hl with | [_, _], _ => rfl
  obtain ⟨fd_l_stroke, F_l_stroke⟩ : ∃ fd, FunS K "_law_stroke" s_l_stroke (He.ga K "_law_stroke") fd := c.t.d.def_ 7 (d := d_l_stroke) rfl
  have m_l_stroke : mg "_law_stroke" = some (.ref _) := He.glo_ok X G (c.t.d.fact 7 (f := .glo "_law_stroke") rfl)
  have n_l_stroke := FunD.bindsN (ps := ["_law_box"]) F_l_stroke fun _ _ _ _ _ _ us hl => match us, hl with | [_], _ => rfl
  obtain ⟨fd_row_text, F_row_text⟩ : ∃ fd, FunS K "row_text" s_row_text (He.ga K "row_text") fd := c.t.d.def_ 8 (d := d_row_text) rfl
  have m_row_text : mg "row_text" = some (.ref _) := He.glo_ok X G (c.t.d.fact 8 (f := .glo "row_text") rfl)
  have n_row_text := FunD.bindsN (ps := ["row"]) F_row_text fun _ _ _ _ _ _ us hl => match us, hl with | [_], _ => rfl
  obtain ⟨fd_law, F_law⟩ : ∃ fd, FunS K "law" s_law (He.ga K "law") fd := c.t.d.def_ 9 (d := d_law) rfl
  have n_law := FunD.bindsA (ps := ["_law_script"]) F_law fun _ _ _ _ _ _ us hl => match us, hl with | [_], _ => rfl
  have b_ValueError : mg "ValueError" = none := He.free_ok X G (c.t.d.fact 10 (f := .free "ValueError") rfl)
  have b_bool : mg "bool" = none := He.free_ok X G (c.t.d.fact 11 (f := .free "bool") rfl)
  have b_int : mg "int" = none := He.free_ok X G (c.t.d.fact 12 (f := .free "int") rfl)
  have b_isinstance : mg "isinstance" = none := He.free_ok X G (c.t.d.fact 13 (f := .free "isinstance") rfl)
  have b_len : mg "len" = none := He.free_ok X G (c.t.d.fact 14 (f := .free "len") rfl)
  have b_list : mg "list" = none := He.free_ok X G (c.t.d.fact 15 (f := .free "list") rfl)
  have b_range : mg "range" = none := He.free_ok X G (c.t.d.fact 16 (f := .free "range") rfl)
  have b_str : mg "str" = none := He.free_ok X G (c.t.d.fact 17 (f := .free "str") rfl)
  have b_tuple : mg "tuple" = none := He.free_ok X G (c.t.d.fact 18 (f := .free "tuple") rfl)
  have g_KEYS : ∃ u, mg "KEYS" = some u ∧ RelV (.str (S [97, 98, 99, 100, 101, 102, 103, 104, 105, 106])) u := by
    obtain ⟨t, e⟩ := He.str_ok X G (c.t.d.fact 24 (f := .str "KEYS" (S [97, 98, 99, 100, 101, 102, 103, 104, 105, 106])) rfl)
    exact ⟨_, e, _, rfl⟩
  have g_MOST_ROW : ∃ u, mg "MOST_ROW" = some u ∧ RelV (.int 6) u := by
    obtain ⟨t, e⟩ := He.int_ok X G (c.t.d.fact 25 (f := .int "MOST_ROW" 6) rfl)
    exact ⟨_, e, _, rfl⟩
  refine ⟨fd_law, fun s v => n_law s [v] rfl, fun base _ _ => ?_⟩
  have c_l_begun : Cal P w K mg base CX0 1 "_law_begun" (sp_begun K) := cal_of F_l_begun (ok_begun F_l_begun (b_int := b_int) (b_len := b_len) (b_list := b_list)) m_l_begun n_l_begun
  have c_l_take : Cal P w K mg base CX0 1 "_law_take" sp_take := cal_of F_l_take (ok_take F_l_take ) m_l_take n_l_take
  have c_l_alike := cal_alike (P := P) (w := w) (base := base) F_l_alike n_l_alike m_l_alike (b_bool := b_bool) (b_int := b_int) (b_isinstance := b_isinstance) (b_len := b_len) (b_list := b_list) (b_range := b_range) (b_str := b_str) (b_tuple := b_tuple) 6
  have c_pressed : CalX P w K mg base 1 "pressed" (sp_pressed K) := calX_of F_pressed (ok_pressed F_pressed (ex := ex) (b_len := b_len) (g_KEYS := g_KEYS)) m_pressed n_pressed
  have c_need_stroke : CalX P w K mg base 1 "need_stroke" (sp_need K) := calX_of F_need_stroke (ok_need F_need_stroke (ex := ex) (g_KEYS := g_KEYS)) m_need_stroke n_need_stroke
  have c_read_row : CalX P w K mg base 2 "read_row" (sp_read_row K) := calX_of F_read_row (ok_read_row F_read_row (ex := ex) (b_len := b_len) (b_tuple := b_tuple) (c_need_stroke := c_need_stroke) (g_MOST_ROW := g_MOST_ROW)) m_read_row n_read_row
  have c_l_told : Cal P w K mg base CX0 4 "_law_told" (sp_told K) := cal_of F_l_told (ok_told F_l_told (ex := ex) (b_ValueError := b_ValueError) (b_isinstance := b_isinstance) (c_pressed := c_pressed) (c_read_row := c_read_row)) m_l_told n_l_told
  have c_l_stroke : Cal P w K mg base CX0 2 "_law_stroke" sp_stroke := cal_of F_l_stroke (ok_stroke F_l_stroke (b_range := b_range) (c_l_take := c_l_take)) m_l_stroke n_l_stroke
  have c_row_text : Cal P w K mg base CX0 1 "row_text" (sp_row_text K) := cal_of F_row_text (ok_row_text F_row_text ) m_row_text n_row_text
  exact FnOk.mono (ok_law F_law (b_len := b_len) (b_list := b_list) (b_range := b_range) (b_tuple := b_tuple) (c_l_begun := c_l_begun) (c_l_take := c_l_take) (c_l_alike := c_l_alike) (c_l_told := c_l_told) (c_l_stroke := c_l_stroke) (c_row_text := c_row_text)) (by decide)
end Ch
open PySem PySem.W PySem.Calls PyProof.Rows
set_option maxHeartbeats 0 in
theorem PySem.Challenge.cw_chords_k02_pressed_and_rows_holds : PySem.Challenge.rw_chords_k02_pressed_and_rows.Holds := by
  w_on; o_law
  refine HandSHeadRun.head_any (r := OpenLaw.row PySem.Challenge.rw_chords_k02_pressed_and_rows) (q := view (OpenLaw.row PySem.Challenge.rw_chords_k02_pressed_and_rows).prog [18]) (H := Ch.hk) (ob := Ch.ob) (M := 4000) (loose := ["ChordError", "BadStroke", "need_stroke", "pressed", "row_text", "read_row", "_law_begun", "_law_take", "_law_alike", "_law_stroke", "_law_pool", "_law_row", "_law_told", "KEYS", "MOST_ROW"]) (d := HandSHeadRun.topDef (OpenLaw.row PySem.Challenge.rw_chords_k02_pressed_and_rows).prog 18) (kwd := []) Ch.ob_eq
    (by kernel_rfl) (fun s => by kernel_rfl) Ch.run (by kernel_rfl) (by kernel_rfl) (by kernel_rfl) (by rfl) (by first | assumption | decide +kernel) (by decide +kernel) ⟨rfl, rfl, rfl, rfl, rfl, by decide +kernel⟩ ?hw ?hc
  case hw => w_witness2
  case hc =>
    refine L2.walk_ofE (l := PySem.Challenge.rw_chords_k02_pressed_and_rows) (n := 63) (k := 20) (x := "_law_script") (CX := L2.CX0) rfl (by decide) (by kernel_rfl) ⟨rfl, by decide, by decide⟩ ?F (fun _ _ _ _ z => z)
    intro w mg fa h Y G hmg0
    obtain ⟨K, KX, c⟩ := Y
    have hmg : mg ("law" : PySem.Str) = some (.ref fa) := by
      have e : (HandSHeadRun.topDef (OpenLaw.row PySem.Challenge.rw_chords_k02_pressed_and_rows).prog 18).name = ("law" : PySem.Str) := by kernel_rfl
      rw [← e]
      exact hmg0
    obtain ⟨fd, hb, hF⟩ := Ch.facts (P := (PySem.Challenge.rw_chords_k02_pressed_and_rows).prog) (w := w) KX G hmg c
    exact ⟨K, fd, Ch.sp_law K, KX, hb, fun H a ns hl _ hS => ⟨a, ns, rfl, hS, hl, fun _ => rfl⟩, hF⟩
#print axioms PySem.Challenge.cw_chords_k02_pressed_and_rows_holds
