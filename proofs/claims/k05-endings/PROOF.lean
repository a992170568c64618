import PyProof.Rows.All
import Wide.All
import OpenK.AllK
import Wide.FinOn
import KE.KStateDown
import HandS.ForMost
import HandS.ForSpec
import HandS.Codes
import HandS.IsInst
import HandS.Defaults
import HandS.TupAny
import HandS.Deep
import HandS.Conv
import HandS.TupLen
import HandS.Head0
import HandS.Head1
import HandS.Head2
import HandS.HeadEnd
import HandS.HeadHook1
import HandS.HeadHook2
import HandS.HeadHook3
import HandS.HeadHook4
import PySem.Challenge.RW_chords_k05_endings
set_option Elab.async false
set_option linter.all false
set_option maxRecDepth 100000
namespace Ch
open PySem PySem.Spec PyProof.Rows L2
def top (i : Nat) : Stmt := PySem.Challenge.pw_chords_k05_endings.main.body.getD i (.Pass ⟨0, 0, 0, 0⟩)
/-! ### texts as lists of signs -/
abbrev S := SX.S
abbrev Tx := List Nat
theorem S_inj {a b : Tx} (h : S a = S b) : a = b := SX.S_inj h
theorem S_len (a : Tx) : (S a).length = a.length := SX.S_len a
theorem S_cat (a b : Tx) : S a ++ S b = S (a ++ b) := SX.S_cat a b
theorem str_inj {a b : Tx} : V.str (S a) = V.str (S b) ↔ a = b := ⟨fun h => S_inj (V.str.inj h), fun h => by rw [h]⟩
theorem S_toList (a : Tx) : (S a).cps.toList = a := rfl
theorem of_S (s : String) : Str.ofString s = S (s.toList.map Char.toNat) := Str.ofString_eq_toList s
theorem S_eq {a b : Tx} : S a = S b ↔ a = b := ⟨S_inj, fun h => by rw [h]⟩
theorem S_ne {a b : Tx} : (S a ≠ S b) ↔ a ≠ b := not_congr S_eq
theorem sg_eq (c : Nat) : ({ cps := #[c] } : Str) = S [c] := rfl
theorem lit_99_104_111_114_100_115_46_101_110_100_105_110_103_115 : Str.ofString "chords.endings" = S [99, 104, 111, 114, 100, 115, 46, 101, 110, 100, 105, 110, 103, 115] := by decide +kernel
theorem lit_97_101_105_111_117 : Str.ofString "aeiou" = S [97, 101, 105, 111, 117] := by decide +kernel
theorem lit_97_98_99_100_101_102_103_104_105_106_107_108_109_110_111_112_113_114_115_116_117_118_119_120_121_122 : Str.ofString "abcdefghijklmnopqrstuvwxyz" = S [97, 98, 99, 100, 101, 102, 103, 104, 105, 106, 107, 108, 109, 110, 111, 112, 113, 114, 115, 116, 117, 118, 119, 120, 121, 122] := by decide +kernel
theorem lit_108_97_119_95_99_104_111_114_100_115_95_107_48_53_95_101_110_100_105_110_103_115 : Str.ofString "law_chords_k05_endings" = S [108, 97, 119, 95, 99, 104, 111, 114, 100, 115, 95, 107, 48, 53, 95, 101, 110, 100, 105, 110, 103, 115] := by decide +kernel
theorem lit_115 : Str.ofString "s" = S [115] := by decide +kernel
theorem lit_105_110_103 : Str.ofString "ing" = S [105, 110, 103] := by decide +kernel
theorem lit_101_100 : Str.ofString "ed" = S [101, 100] := by decide +kernel
theorem lit_108_121 : Str.ofString "ly" = S [108, 121] := by decide +kernel
theorem lit_101_114 : Str.ofString "er" = S [101, 114] := by decide +kernel
theorem lit_101_115_116 : Str.ofString "est" = S [101, 115, 116] := by decide +kernel
theorem lit_97_98_108_101 : Str.ofString "able" = S [97, 98, 108, 101] := by decide +kernel
theorem lit_121 : Str.ofString "y" = S [121] := by decide +kernel
theorem lit_110_101_115_115 : Str.ofString "ness" = S [110, 101, 115, 115] := by decide +kernel
theorem lit_45_108_105_107_101 : Str.ofString "-like" = S [45, 108, 105, 107, 101] := by decide +kernel
theorem lit_39_115 : Str.ofString "'s" = S [39, 115] := by decide +kernel
theorem lit_105_115_104 : Str.ofString "ish" = S [105, 115, 104] := by decide +kernel
theorem lit_97 : Str.ofString "a" = S [97] := by decide +kernel
theorem lit_101 : Str.ofString "e" = S [101] := by decide +kernel
theorem lit_105 : Str.ofString "i" = S [105] := by decide +kernel
theorem lit_111 : Str.ofString "o" = S [111] := by decide +kernel
theorem lit_117 : Str.ofString "u" = S [117] := by decide +kernel
theorem lit_101_121 : Str.ofString "ey" = S [101, 121] := by decide +kernel
theorem lit_114_121 : Str.ofString "ry" = S [114, 121] := by decide +kernel
theorem lit_101_101 : Str.ofString "ee" = S [101, 101] := by decide +kernel
theorem lit_121_101 : Str.ofString "ye" = S [121, 101] := by decide +kernel
theorem lit_111_101 : Str.ofString "oe" = S [111, 101] := by decide +kernel
theorem lit_120 : Str.ofString "x" = S [120] := by decide +kernel
theorem lit_99_104 : Str.ofString "ch" = S [99, 104] := by decide +kernel
theorem lit_115_104 : Str.ofString "sh" = S [115, 104] := by decide +kernel
theorem lit_117_110 : Str.ofString "un" = S [117, 110] := by decide +kernel
theorem lit_111_119 : Str.ofString "ow" = S [111, 119] := by decide +kernel
theorem lit_97_120 : Str.ofString "ax" = S [97, 120] := by decide +kernel
theorem lit_116_104 : Str.ofString "th" = S [116, 104] := by decide +kernel
theorem lit_104_101 : Str.ofString "he" = S [104, 101] := by decide +kernel
theorem lit_ : Str.ofString "" = S [] := by decide +kernel
theorem lit_119_120_121 : Str.ofString "wxy" = S [119, 120, 121] := by decide +kernel
theorem lit_101_115 : Str.ofString "es" = S [101, 115] := by decide +kernel
theorem lit_97_101_105_111_117_115_116_120_121_122 : Str.ofString "aeioustxyz" = S [97, 101, 105, 111, 117, 115, 116, 120, 121, 122] := by decide +kernel
theorem lit_97_101_104_110_114_115_119_121_48_49_50_51_52_53_54_55_56_57_39_45 : Str.ofString "aehnrswy0123456789'-" = S [97, 101, 104, 110, 114, 115, 119, 121, 48, 49, 50, 51, 52, 53, 54, 55, 56, 57, 39, 45] := by decide +kernel
theorem lit_119_111_114_100 : Str.ofString "word" = S [119, 111, 114, 100] := by decide +kernel
theorem lit_103_108_117_101 : Str.ofString "glue" = S [103, 108, 117, 101] := by decide +kernel
theorem lit_106_111_105_110 : Str.ofString "join" = S [106, 111, 105, 110] := by decide +kernel
theorem lit_115_116_111_112 : Str.ofString "stop" = S [115, 116, 111, 112] := by decide +kernel
theorem lit_122 : Str.ofString "z" = S [122] := by decide +kernel
theorem lit_97_101_105_111_117_115_120_121_122_99_104_114_110_116 : Str.ofString "aeiousxyzchrnt" = S [97, 101, 105, 111, 117, 115, 120, 121, 122, 99, 104, 114, 110, 116] := by decide +kernel
theorem lit_105_101_115 : Str.ofString "ies" = S [105, 101, 115] := by decide +kernel
theorem lit_46_63_33_44_58_59 : Str.ofString ".?!,:;" = S [46, 63, 33, 44, 58, 59] := by decide +kernel
theorem lit_103_114_101_97_116 : Str.ofString "great" = S [103, 114, 101, 97, 116] := by decide +kernel
theorem lit_97_108_108 : Str.ofString "all" = S [97, 108, 108] := by decide +kernel
theorem lit_108_97_115_116 : Str.ofString "last" = S [108, 97, 115, 116] := by decide +kernel
theorem lit_119 : Str.ofString "w" = S [119] := by decide +kernel
theorem size_le {n : Nat} (h : n ≤ 1000000) : n ≤ sizeLine := Nat.le_trans h (by decide)
theorem size_lt {n : Nat} (h : n < 1000000) : n < sizeLine := Nat.lt_of_lt_of_le h (by decide)
/-! ### heaps -/
theorem same_new {H : Hp} {p : Addr} {o : HO} (h : H p = none) : Same H (upd H p o) := fun b x e => by
  rw [upd_ne (ne_of_none e h)]
  exact e
theorem same_mut {H H' : Hp} {p : Addr} {o : HO} (e : Same H H') (h : H p = none) : Same H (upd H' p o) := fun a u ha => by
  rw [upd_ne (ne_of_none ha h)]
  exact e a u ha
theorem sq_of {K : PySem.W.Frag} {H : Hp} {a : Addr} {xs : List V} (h : H a = some (.lst xs)) : SqL K H a xs := .inl (.inl h)
theorem st_of {K : PySem.W.Frag} {H : Hp} {a : Addr} {xs : List V} (h : H a = some (.tup xs)) : SqT K H a xs := .inl (.inl h)
theorem same_t {K : PySem.W.Frag} {H H' : Hp} {a : Addr} {xs : List V} (e : Same H H') (h : SqT K H a xs) : SqT K H' a xs := by
  rcases h with (h | ⟨o, h⟩) | h
  · exact .inl (.inl (e _ _ h))
  · exact .inl (.inr ⟨o, e _ _ h⟩)
  · exact .inr h
theorem same_l {K : PySem.W.Frag} {H H' : Hp} {a : Addr} {xs : List V} (e : Same H H') (h : SqL K H a xs) : SqL K H' a xs := e.seq h
theorem Dp.ext {K : PySem.W.Frag} {H H' : Hp} (e : Same H H') {v : V} {d : PyData} (h : Dp K H v d) : Dp K H' v d := by
  refine Dp.rec (motive_1 := fun v d _ => Dp K H' v d) (motive_2 := fun vs ds _ => DpAll K H' vs ds) ?_ ?_ ?_ ?_ ?_ ?_ ?_ ?_ h
  · exact .non
  · exact .bl
  · exact .int
  · exact .str
  · intro a xs ds hs _ ih
    exact .lst (same_l e hs) ih
  · intro a xs ds hs _ ih
    exact .tup (same_t e hs) ih
  · exact .nil
  · intro v vs d ds _ _ h1 h2
    exact .cons h1 h2
theorem DpAll.ext {K : PySem.W.Frag} {H H' : Hp} (e : Same H H') : ∀ {vs : List V} {ds : List PyData}, DpAll K H vs ds → DpAll K H' vs ds
  | _, _, .nil => .nil
  | _, _, .cons h t => .cons (Dp.ext e h) (DpAll.ext e t)
theorem DpAll.len {K : PySem.W.Frag} {H : Hp} : ∀ {vs : List V} {ds : List PyData}, DpAll K H vs ds → vs.length = ds.length
  | _, _, .nil => rfl
  | _, _, .cons _ t => congrArg (· + 1) (DpAll.len t)
theorem DpAll.get {K : PySem.W.Frag} {H : Hp} : ∀ {vs : List V} {ds : List PyData} {i : Nat} {d : PyData}, DpAll K H vs ds → ds[i]? = some d → ∃ v, vs[i]? = some v ∧ Dp K H v d
  | _, _, _, _, .nil, h => by simp at h
  | _, _, 0, _, .cons h _, e => by
    simp at e
    subst e
    exact ⟨_, rfl, h⟩
  | _, _, i + 1, _, .cons _ t, e => by
    obtain ⟨v, h1, h2⟩ := DpAll.get (i := i) t (by simpa using e)
    exact ⟨v, by simpa using h1, h2⟩
theorem DpAll.app {K : PySem.W.Frag} {H : Hp} : ∀ {vs ws : List V} {ds es : List PyData}, DpAll K H vs ds → DpAll K H ws es → DpAll K H (vs ++ ws) (ds ++ es)
  | _, _, _, _, .nil, h => h
  | _, _, _, _, .cons a t, h => .cons a (DpAll.app t h)
theorem dp_int {K : PySem.W.Frag} {H : Hp} {v : V} {i : Int} (h : Dp K H v (.int i)) : v = .int i := by cases h; rfl
theorem dp_str {K : PySem.W.Frag} {H : Hp} {v : V} {x : Str} (h : Dp K H v (.str x)) : v = .str x := by cases h; rfl
theorem dp_bl {K : PySem.W.Frag} {H : Hp} {v : V} {b : Bool} (h : Dp K H v (.bool b)) : v = .bl b := by cases h; rfl
theorem dp_non {K : PySem.W.Frag} {H : Hp} {v : V} (h : Dp K H v .none) : v = .non := by cases h; rfl
theorem dp_tup {K : PySem.W.Frag} {H : Hp} {v : V} {ds : List PyData} (h : Dp K H v (.tuple ds)) : ∃ a xs, v = .ref a ∧ SqT K H a xs ∧ DpAll K H xs ds := by
  cases h with
  | tup h1 h2 => exact ⟨_, _, rfl, h1, h2⟩
theorem dp_lst {K : PySem.W.Frag} {H : Hp} {v : V} {ds : List PyData} (h : Dp K H v (.list ds)) : ∃ a xs, v = .ref a ∧ SqL K H a xs ∧ DpAll K H xs ds := by
  cases h with
  | lst h1 h2 => exact ⟨_, _, rfl, h1, h2⟩
theorem dp_ints {K : PySem.W.Frag} {H : Hp} : ∀ ns : List Int, DpAll K H (ns.map V.int) (ns.map PyData.int)
  | [] => .nil
  | n :: r => .cons (.int n) (dp_ints r)
theorem dp_strs {K : PySem.W.Frag} {H : Hp} : ∀ ns : List Str, DpAll K H (ns.map V.str) (ns.map PyData.str)
  | [] => .nil
  | n :: r => .cons (.str n) (dp_strs r)
theorem shaped_ints (ns : List Int) : SeqAt.shaped (.list (ns.map PyData.int)) = true := by
  have h1 : ∀ ns : List Int, PyData.canLayAll0 (ns.map PyData.int) = true := fun ns => by
    induction ns with
    | nil => rfl
    | cons n r ih => simp only [List.map_cons, PyData.canLayAll0, PyData.canLay0, ih, Bool.and_true]
  have h2 : ∀ ns : List Int, PyData.depthAll (ns.map PyData.int) = 0 := fun ns => by
    induction ns with
    | nil => rfl
    | cons n r ih => simp only [List.map_cons, PyData.depthAll, PyData.depth, ih, Nat.max_self]
  simp only [SeqAt.shaped, PyData.canLay0, h1, PyData.depth, h2, Bool.true_and, decide_eq_true_eq]
  decide
theorem eqv_nil (ds : List PyData) : PyData.eqv (.list ds) (.list []) = ds.isEmpty := by
  cases ds with
  | nil => simp only [PyData.eqv, PyData.eqvAll, List.isEmpty_nil]
  | cons d r => simp only [PyData.eqv, PyData.eqvAll, List.isEmpty_cons]
/-- the tuples stay -/
def KT (G G' : Hp) : Prop := ∀ a xs, Rd G a (.tup xs) → Rd G' a (.tup xs)
theorem KT.of {G G' : Hp} (e : Same G G') : KT G G' := fun a xs h => by
  rcases h with h | ⟨o, h⟩
  · exact .inl (e _ _ h)
  · exact .inr ⟨o, e _ _ h⟩
theorem KT.refl (G : Hp) : KT G G := fun _ _ h => h
theorem KT.trans {G G1 G2 : Hp} (a : KT G G1) (b : KT G1 G2) : KT G G2 := fun p xs h => b p xs (a p xs h)
theorem KT.put {G : Hp} {p : Addr} {o o' : HO} (h : G p = some o) (h1 : ∀ xs, o ≠ .tup xs) (h2 : ∀ u xs, o ≠ .frz u (.tup xs)) : KT G (upd G p o') := fun a xs q => by
  rcases q with q | ⟨u, q⟩
  · exact .inl (by rw [upd_ne (fun e => h1 xs (by rw [e, h] at q; exact Option.some.inj q))]; exact q)
  · exact .inr ⟨u, by rw [upd_ne (fun e => h2 u xs (by rw [e, h] at q; exact Option.some.inj q))]; exact q⟩
theorem KT.putL {G : Hp} {p : Addr} {xs : List V} {o' : HO} (h : G p = some (.lst xs)) : KT G (upd G p o') := KT.put h (fun _ q => by cases q) fun _ _ q => by cases q
theorem KT.sq {K : PySem.W.Frag} {G G' : Hp} {a : Addr} {xs : List V} (e : KT G G') (h : SqT K G a xs) : SqT K G' a xs := by
  rcases h with h | h
  · exact .inl (e _ _ h)
  · exact .inr h
mutual
/-- data without lists -/
def noL : PyData → Bool
  | .none | .bool _ | .int _ | .str _ => true
  | .tuple ds => noLs ds
  | .list _ | .dict _ => false
def noLs : List PyData → Bool
  | [] => true
  | d :: r => noL d && noLs r
end
theorem Dp.kt {K : PySem.W.Frag} {H H' : Hp} (e : KT H H') {v : V} {d : PyData} (n : noL d = true) (h : Dp K H v d) : Dp K H' v d := by
  refine Dp.rec (motive_1 := fun v d _ => noL d = true → Dp K H' v d) (motive_2 := fun vs ds _ => noLs ds = true → DpAll K H' vs ds) ?_ ?_ ?_ ?_ ?_ ?_ ?_ ?_ h n
  · exact fun _ => .non
  · exact fun b _ => .bl b
  · exact fun i _ => .int i
  · exact fun x _ => .str x
  · intro a xs ds hs _ ih n
    simp only [noL, Bool.false_eq_true] at n
  · intro a xs ds hs _ ih n
    simp only [noL] at n
    exact .tup (e.sq hs) (ih n)
  · exact fun _ => .nil
  · intro v vs d ds _ _ h1 h2 n
    simp only [noLs, Bool.and_eq_true] at n
    exact .cons (h1 n.1) (h2 n.2)
theorem DpAll.kt {K : PySem.W.Frag} {H H' : Hp} (e : KT H H') : ∀ {vs : List V} {ds : List PyData}, noLs ds = true → DpAll K H vs ds → DpAll K H' vs ds
  | _, _, _, .nil => .nil
  | _, _, n, .cons h t => by
    simp only [noLs, Bool.and_eq_true] at n
    exact .cons (Dp.kt e n.1 h) (DpAll.kt e n.2 t)
/-- data that == and the laws' comparison read: no dict, less than so deep, texts of plain signs -/
def okD : Nat → PyData → Prop
  | 0, _ => False
  | _ + 1, .none => True
  | _ + 1, .bool _ => True
  | _ + 1, .int _ => True
  | _ + 1, .str x => PyData.strOk x = true
  | n + 1, .list ds => ds.length ≤ 100000 ∧ ∀ d ∈ ds, okD n d
  | n + 1, .tuple ds => ds.length ≤ 100000 ∧ ∀ d ∈ ds, okD n d
  | _ + 1, .dict _ => False
theorem okD.mono : ∀ {n : Nat} {d : PyData}, okD n d → okD (n + 1) d
  | 0, _, h => h.elim
  | _ + 1, .none, _ => trivial
  | _ + 1, .bool _, _ => trivial
  | _ + 1, .int _, _ => trivial
  | _ + 1, .str _, h => h
  | _ + 1, .list _, h => ⟨h.1, fun d hd => okD.mono (h.2 d hd)⟩
  | _ + 1, .tuple _, h => ⟨h.1, fun d hd => okD.mono (h.2 d hd)⟩
  | _ + 1, .dict _, h => h.elim
theorem okD.le {n m : Nat} {d : PyData} (h : okD n d) (l : n ≤ m) : okD m d := by
  induction l with
  | refl => exact h
  | step _ ih => exact ih.mono
theorem lay_all {p : PyData → Bool} : ∀ ds : List PyData, (∀ d ∈ ds, PyData.canLay0 d = true) → PyData.canLayAll0 ds = true
  | [], _ => rfl
  | d :: r, h => by
    simp only [PyData.canLayAll0, Bool.and_eq_true]
    exact ⟨h d List.mem_cons_self, lay_all (p := p) r fun e he => h e (List.mem_cons_of_mem _ he)⟩
theorem depth_all {n : Nat} : ∀ ds : List PyData, (∀ d ∈ ds, PyData.depth d ≤ n) → PyData.depthAll ds ≤ n
  | [], _ => Nat.zero_le _
  | d :: r, h => by
    simp only [PyData.depthAll]
    exact Nat.max_le.mpr ⟨h d List.mem_cons_self, depth_all r fun e he => h e (List.mem_cons_of_mem _ he)⟩
theorem okD.lay : ∀ {n : Nat} {d : PyData}, okD n d → PyData.canLay0 d = true ∧ PyData.depth d ≤ n
  | 0, _, h => h.elim
  | _ + 1, .none, _ => ⟨rfl, Nat.zero_le _⟩
  | _ + 1, .bool _, _ => ⟨rfl, Nat.zero_le _⟩
  | _ + 1, .int _, _ => ⟨rfl, Nat.zero_le _⟩
  | _ + 1, .str _, h => ⟨h, Nat.zero_le _⟩
  | n + 1, .list ds, h => by
    simp only [PyData.canLay0, PyData.depth]
    exact ⟨lay_all (p := fun _ => true) ds fun d hd => (h.2 d hd).lay.1, Nat.succ_le_succ (depth_all ds fun d hd => (h.2 d hd).lay.2)⟩
  | n + 1, .tuple ds, h => by
    simp only [PyData.canLay0, PyData.depth]
    exact ⟨lay_all (p := fun _ => true) ds fun d hd => (h.2 d hd).lay.1, Nat.succ_le_succ (depth_all ds fun d hd => (h.2 d hd).lay.2)⟩
  | _ + 1, .dict _, h => h.elim
theorem okD.shaped {n : Nat} {d : PyData} (h : okD n d) (l : n ≤ 64) : SeqAt.shaped d = true := by
  obtain ⟨h1, h2⟩ := h.lay
  simp only [SeqAt.shaped, h1, Bool.true_and, decide_eq_true_eq]
  omega
def asc (t : Tx) : Prop := ∀ c ∈ t, c < 128
theorem asc_ok {t : Tx} (h : asc t) : PyData.strOk (S t) = true := by
  simp only [PyData.strOk]
  rw [← Array.all_toList, List.all_eq_true]
  intro c hc
  have := h c hc
  simp only [decide_eq_true_eq]
  omega
theorem asc_app {a b : Tx} (ha : asc a) (hb : asc b) : asc (a ++ b) := fun c hc => (List.mem_append.mp hc).elim (ha c) (hb c)
theorem asc_drop {a : Tx} (n : Nat) (ha : asc a) : asc (a.drop n) := fun c hc => ha c (List.mem_of_mem_drop hc)
theorem asc_take {a : Tx} (n : Nat) (ha : asc a) : asc (a.take n) := fun c hc => ha c (List.mem_of_mem_take hc)
/-! ### a def by its name -/
structure Cal (P : Program) (w : World) (K : PySem.W.Frag) (mg : Str → Option Value) (base : Heap) (CX : CXT) (k : Nat) (x : Str) (sp : Sp) : Prop where
  ex : ∃ (f : Addr) (fd : FuncData) (ps : List Str), FnOk P w K mg base CX k f fd ps sp ∧ mg x = some (.ref f) ∧ PySem.W.keepIn K (.ref f) = true ∧ Binds K fd ps []
section
variable {X : Cx} {k j : Nat} {x m : Str} {sp : Sp} {p pos apos : Pos} {e o : Expr} {es : List Expr} {ta : TE} {t : TA}
theorem pe_c (c : Cal X.prog X.w X.K X.mg X.base CX0 k x sp) (hr : Room j X.A) (hk : k ≤ j) (hg : Gl X x) (ha : PA X (e :: es) t)
    (hdb : (x == ("__debug__" : Str)) = false := by decide) (he : starEach (e :: es) X.env = (false, eval e X.env) :: starEach es X.env := by rfl) (hpl : (backTo pos (starEach es X.env)).any (·.1) = false := by rfl) :
    PE X (.Call (.Name x p) (e :: es) [] pos) (tCall sp [] E0 t) := by
  obtain ⟨f, fd, ps, F, hm, kp, b⟩ := c.ex
  exact pe_call F (hr.mono hk) hg hm kp b .nil pass0 ha hdb he hpl
theorem pe_gc {v : V} (hg : Gl X x) (h : ∃ u, X.mg x = some u ∧ RelV v u) (hd : (x == ("__debug__" : Str)) = false := by decide) : PE X (.Name x pos) (tC v) := by
  obtain ⟨u, hm, r⟩ := h
  exact pe_glob hg hm r hd
end
/-! ### the box of a script's numbers: G is all that is known beside it -/
def Bx (b : Addr) (G H : Hp) : Prop := Same G H ∧ G b = none ∧ ∃ (l : Addr) (ns : List Int) (s : Int), G l = none ∧ H b = some (.lst [.ref l, .int s]) ∧ H l = some (.lst (ns.map V.int)) ∧ 0 ≤ s ∧ s < 2147483647
theorem Bx.ex {b : Addr} {G H : Hp} (h : Bx b G H) : Same G H := h.1
theorem Bx.alloc {b p : Addr} {G H : Hp} {o : HO} (h : Bx b G H) (hp : H p = none) : Bx b (upd G p o) (upd H p o) := by
  obtain ⟨s0, gb, l, ns, s, gl, hb, hl, r⟩ := h
  have nb : b ≠ p := ne_of_none hb hp
  have nl : l ≠ p := ne_of_none hl hp
  refine ⟨fun a u e => ?_, by rw [upd_ne nb]; exact gb, l, ns, s, by rw [upd_ne nl]; exact gl, by rw [upd_ne nb]; exact hb, by rw [upd_ne nl]; exact hl, r⟩
  by_cases ha : a = p
  · subst ha
    rw [upd_same] at e ⊢
    exact e
  · rw [upd_ne ha] at e ⊢
    exact s0 a u e
theorem Bx.put {b p : Addr} {G H : Hp} {o o' : HO} (h : Bx b G H) (hp : G p = some o) : Bx b (upd G p o') (upd H p o') := by
  obtain ⟨s0, gb, l, ns, s, gl, hb, hl, r⟩ := h
  have nb : b ≠ p := (ne_of_none hp gb).symm
  have nl : l ≠ p := (ne_of_none hp gl).symm
  refine ⟨fun a u e => ?_, by rw [upd_ne nb]; exact gb, l, ns, s, by rw [upd_ne nl]; exact gl, by rw [upd_ne nb]; exact hb, by rw [upd_ne nl]; exact hl, r⟩
  by_cases ha : a = p
  · subst ha
    rw [upd_same] at e ⊢
    exact e
  · rw [upd_ne ha] at e ⊢
    exact s0 a u e
abbrev FunS (K : PySem.W.Frag) (x : Str) (st : Stmt) (f : Addr) (fd : FuncData) : Prop := FunD K x x (defArgs st) (defBody st) (defScope st) [] [] f fd
theorem cal_of {P : Program} {w : World} {K : PySem.W.Frag} {mg : Str → Option Value} {base : Heap} {CX : CXT} {k : Nat} {x : Str} {st : Stmt} {f : Addr} {fd : FuncData} {ps : List Str} {sp : Sp} (F : FunS K x st f fd) (ok : FnOk P w K mg base CX k f fd ps sp) (m : mg x = some (.ref f)) (b : Binds K fd ps []) :
    Cal P w K mg base CX k x sp := ⟨f, fd, ps, ok, m, F.kp, b⟩
theorem start2 {a b c : Str} {u v : V} : L2.start [a, b, c] [u, v] = [some u, some v, none] := rfl
theorem cxOf_K {CX : CXT} {P : Program} {w : World} {K : PySem.W.Frag} {mg : Str → Option Value} {base : Heap} {N : List Str} {qual : Str} {scope : Scope} {f : Addr} {cd : Value} {A : Around} {outer : List Env} {s : Shared} {H : Hp} {E : XK} :
    (cxOf CX P w K mg base N qual scope f cd A outer s H E).K = K := rfl
/-- a new object: the heap behind it by a letter -/
theorem al_ {H H1 : Hp} {p : Addr} {o : HO} (hp : H p = none) (e : upd H p o = H1) : Same H H1 ∧ H1 p = some o := by
  subst e
  exact ⟨same_new hp, upd_same⟩
theorem alB_ {b p : Addr} {G H H1 : Hp} {o : HO} (B : Bx b G H) (hp : H p = none) (e : upd H p o = H1) : ∃ G1, G p = none ∧ Same G G1 ∧ Bx b G1 H1 ∧ G1 p = some o := by
  subst e
  exact ⟨upd G p o, B.ex.free hp, same_new (B.ex.free hp), B.alloc hp, upd_same⟩
theorem at0 {α : Type} (x : α) (r : List α) : atI (x :: r) 0 = some x := atI_nat (j := 0) rfl
theorem at1 {α : Type} (x y : α) (r : List α) : atI (x :: y :: r) 1 = some y := atI_nat (j := 1) rfl
theorem ixn {n j : Nat} (h : j < n) : ixN n (j : Int) = some j := by
  unfold ixN
  rw [if_pos (by omega), if_pos (by omega)]
  simp
theorem ix0 (n : Nat) : ixN (n + 1) 0 = some 0 := ixn (j := 0) (by omega)
/-! ### loops -/
theorem drop_cons {α : Type} {xs : List α} {i : Nat} {x : α} (h : xs[i]? = some x) : xs.drop i = x :: xs.drop (i + 1) := by
  obtain ⟨h1, h2⟩ := List.getElem?_eq_some_iff.mp h
  rw [← h2]
  exact List.drop_eq_getElem_cons h1
/-- the turns of a for, once what it walks has come -/
def LoopP (J : It) (g : TG) (tb : TS) (D : Ends) (σ : L2.St) (H : Hp) : Prop := ∃ W : Nat → Nat → L2.St → Hp → Prop, (∃ m, W 0 m σ H) ∧ ∀ i m σ H, W i m σ H →
  (J.stop i H ∧ D.nx σ H) ∨ (J.go i H ∧ ∃ N : L2.St → Hp → Prop, (∀ σ' H', N σ' H' → ∃ m', m' < m ∧ W (i + 1) m' σ' H') ∧ ∀ x H', J.yld i H x H' → g x σ H' fun σ2 H2 => tb { D with nx := N, ct := N, bk := D.nx } σ2 H2)
theorem tFor_eq {wi : TI} {g : TG} {tb : TS} {D : Ends} {σ : L2.St} {H : Hp} : tFor wi g tb D σ H = wi σ H fun J H1 => LoopP J g tb D σ H1 := rfl
/-- the turns of a comprehension, L the new list -/
def CompP (J : It) (g : TG) (tt : TT) (te : TE) (vs : List Nat) (σ : L2.St) (L : Addr) (Q : VK) (H : Hp) : Prop := ∃ W : Nat → Nat → Hp → Prop, (∃ m, W 0 m H) ∧ ∀ i m H, W i m H →
  (J.stop i H ∧ Q (.ref L) H) ∨ (J.go i H ∧ ∃ Nx : Hp → Prop, (∀ H', Nx H' → ∃ m', m' < m ∧ W (i + 1) m' H') ∧ ∀ x H', J.yld i H x H' → g x (wipe σ vs) H' fun σ2 H2 => wipe σ2 vs = wipe σ vs ∧ tt σ2 H2 fun b H3 =>
    if b = true then te σ2 H3 fun y H4 => ∃ acc, H4 L = some (.lst acc) ∧ acc.length < sizeLine ∧ Nx (upd H4 L (.lst (acc ++ [y]))) else Nx H3)
theorem tLc_eq {wi : TI} {g : TG} {tt : TT} {te : TE} {vs : List Nat} {σ : L2.St} {H : Hp} {Q : VK} : tLc wi g tt te vs σ H Q = wi σ H fun J H1 => ∀ L, H1 L = none → CompP J g tt te vs σ L Q (upd H1 L (.lst [])) := rfl
theorem iList_eq {K : PySem.W.Frag} {te : TE} {σ : L2.St} {H : Hp} {R : It → Hp → Prop} : iList K te σ H R = te σ H fun v H1 => ∃ a, v = .ref a ∧ (∃ xs, SqL K H1 a xs) ∧ R (Itl K a) H1 := rfl
theorem iTup_eq {K : PySem.W.Frag} {te : TE} {σ : L2.St} {H : Hp} {R : It → Hp → Prop} : iTup K te σ H R = te σ H fun v H1 => ∃ a, v = .ref a ∧ (∃ xs, SqT K H1 a xs) ∧ R (Itt K a) H1 := rfl
theorem iRng1_eq {t : TA} {σ : L2.St} {H : Hp} {R : It → Hp → Prop} : iRng1 t σ H R = t σ H fun vs H1 => ∃ j : Int, vs = [.int j] ∧ -(2 ^ 62) ≤ j ∧ j < 2 ^ 62 ∧ R (Itr 0 j.toNat) H1 := rfl
theorem iStr_eq {te : TE} {σ : L2.St} {H : Hp} {R : It → Hp → Prop} : iStr te σ H R = te σ H fun v H1 => ∃ x, v = .str x ∧ R (Its x) H1 := rfl
section
variable {g : TG} {tb : TS} {D : Ends} {σ : L2.St} {H : Hp} {tt : TT} {te : TE} {vs : List Nat} {L : Addr} {Q : VK}
/-- over a list that stands: Pv by what is left -/
theorem loop_list {K : PySem.W.Frag} {a : Addr} (xs : List V) (Pv : List V → L2.St → Hp → Prop) (h0 : Pv xs σ H) (hl : ∀ r σ H, Pv r σ H → SqL K H a xs)
    (hs : ∀ x r σ H, Pv (x :: r) σ H → g x σ H fun σ2 H2 => tb { D with nx := Pv r, ct := Pv r, bk := D.nx } σ2 H2) (hd : ∀ σ H, Pv [] σ H → D.nx σ H) : LoopP (Itl K a) g tb D σ H :=
  for_list (fun i σ H => Pv (xs.drop i) σ H) h0 (fun i σ H _ q => hl _ _ _ q) (fun i x σ H e q => by
    rw [drop_cons e] at q
    exact hs x _ σ H q) fun σ H q => hd σ H (by rw [List.drop_length] at q; exact q)
theorem loop_tup {K : PySem.W.Frag} {a : Addr} (xs : List V) (Pv : List V → L2.St → Hp → Prop) (h0 : Pv xs σ H) (hl : ∀ r σ H, Pv r σ H → SqT K H a xs)
    (hs : ∀ x r σ H, Pv (x :: r) σ H → g x σ H fun σ2 H2 => tb { D with nx := Pv r, ct := Pv r, bk := D.nx } σ2 H2) (hd : ∀ σ H, Pv [] σ H → D.nx σ H) : LoopP (Itt K a) g tb D σ H :=
  for_tup (fun i σ H => Pv (xs.drop i) σ H) h0 (fun i σ H _ q => hl _ _ _ q) (fun i x σ H e q => by
    rw [drop_cons e] at q
    exact hs x _ σ H q) fun σ H q => hd σ H (by rw [List.drop_length] at q; exact q)
/-- over a range from 0, by the turn -/
theorem loop_range {n : Nat} (Pv : Nat → L2.St → Hp → Prop) (h0 : Pv 0 σ H)
    (hs : ∀ i σ H, i < n → Pv i σ H → g (.int i) σ H fun σ2 H2 => tb { D with nx := Pv (i + 1), ct := Pv (i + 1), bk := D.nx } σ2 H2) (hd : ∀ σ H, Pv n σ H → D.nx σ H) : LoopP (Itr 0 n) g tb D σ H :=
  for_range Pv h0 (fun i σ H hi p => by
    have e0 : (0 : Int) + (i : Int) = (i : Int) := Int.zero_add _
    rw [e0]
    exact hs i σ H hi p) hd
/-- over a text's signs -/
theorem loop_str (cs : Tx) (Pv : Tx → L2.St → Hp → Prop) (h0 : Pv cs σ H)
    (hs : ∀ c r σ H, Pv (c :: r) σ H → g (.str (S [c])) σ H fun σ2 H2 => tb { D with nx := Pv r, ct := Pv r, bk := D.nx } σ2 H2) (hd : ∀ σ H, Pv [] σ H → D.nx σ H) : LoopP (Its (S cs)) g tb D σ H := by
  refine ⟨fun i m σ H => m = cs.length - i ∧ i ≤ cs.length ∧ Pv (cs.drop i) σ H, ⟨cs.length, by simp, Nat.zero_le _, h0⟩, ?_⟩
  rintro i m σ H ⟨rfl, hi, p⟩
  have sz : (S cs).cps.size = cs.length := by simp
  by_cases hlt : i < cs.length
  · refine .inr ⟨by show i < (S cs).cps.size; omega, Pv (cs.drop (i + 1)), fun σ' H' p' => ⟨cs.length - (i + 1), by omega, rfl, hlt, p'⟩, fun x H' y => ?_⟩
    obtain ⟨e, c, e2, e3⟩ := y
    subst e e3
    have e4 : cs[i]? = some c := by
      rw [← e2]
      simp
    rw [drop_cons e4] at p
    exact hs c _ σ _ p
  · have e : i = cs.length := by omega
    subst e
    rw [List.drop_length] at p
    exact .inl ⟨by show (S cs).cps.size ≤ _; omega, hd σ H p⟩
/-- comprehensions: what stands behind a turn -/
def CNx (L : Addr) (i : Nat) (P : List V → Hp → Prop) (H : Hp) : Prop := ∃ acc, H L = some (.lst acc) ∧ acc.length ≤ i ∧ P acc H
theorem cput {i : Nat} {acc : List V} {y : V} {P : List V → Hp → Prop} (hL : H L = some (.lst acc)) (ha : acc.length ≤ i) (hi : i < 1000000) (h : P (acc ++ [y]) (upd H L (.lst (acc ++ [y])))) :
    ∃ acc, H L = some (.lst acc) ∧ acc.length < sizeLine ∧ CNx L (i + 1) P (upd H L (.lst (acc ++ [y]))) :=
  ⟨acc, hL, size_lt (by omega), acc ++ [y], upd_same, by rw [List.length_append, List.length_singleton]; omega, h⟩
theorem cskip {i : Nat} {acc : List V} {P : List V → Hp → Prop} (hL : H L = some (.lst acc)) (ha : acc.length ≤ i) (h : P acc H) : CNx L (i + 1) P H := ⟨acc, hL, by omega, h⟩
theorem comp_list {K : PySem.W.Frag} {a : Addr} (xs : List V) (Pv : List V → List V → Hp → Prop) (hz : xs.length ≤ 1000000) (h0 : Pv xs [] H) (hL0 : H L = some (.lst [])) (hl : ∀ r acc H, Pv r acc H → SqL K H a xs)
    (hs : ∀ i x r acc H, H L = some (.lst acc) → acc.length ≤ i → i < 1000000 → Pv (x :: r) acc H → g x (wipe σ vs) H fun σ2 H2 => wipe σ2 vs = wipe σ vs ∧ tt σ2 H2 fun b H3 =>
      if b = true then te σ2 H3 fun y H4 => ∃ acc, H4 L = some (.lst acc) ∧ acc.length < sizeLine ∧ CNx L (i + 1) (Pv r) (upd H4 L (.lst (acc ++ [y]))) else CNx L (i + 1) (Pv r) H3)
    (hd : ∀ acc H, H L = some (.lst acc) → acc.length ≤ xs.length → Pv [] acc H → Q (.ref L) H) : CompP (Itl K a) g tt te vs σ L Q H := by
  refine ⟨fun i m H => m = xs.length - i ∧ i ≤ xs.length ∧ CNx L i (Pv (xs.drop i)) H, ⟨xs.length, by simp, Nat.zero_le _, [], hL0, Nat.le_refl _, h0⟩, ?_⟩
  rintro i m H ⟨rfl, hi, acc, hA, hn, p⟩
  have q := hl _ _ _ p
  by_cases hlt : i < xs.length
  · refine .inr ⟨⟨xs, xs[i], q, by simp [hlt]⟩, CNx L (i + 1) (Pv (xs.drop (i + 1))), fun H' p' => ⟨xs.length - (i + 1), by omega, rfl, hlt, p'⟩, fun x H' y => ?_⟩
    obtain ⟨e, y⟩ := y
    subst e
    rw [drop_cons (y xs q)] at p
    exact hs i x _ acc _ hA hn (by omega) p
  · have e : i = xs.length := by omega
    subst e
    rw [List.drop_length] at p
    exact .inl ⟨⟨xs, q, Nat.le_refl _⟩, hd acc H hA hn p⟩
theorem comp_tup {K : PySem.W.Frag} {a : Addr} (xs : List V) (Pv : List V → List V → Hp → Prop) (hz : xs.length ≤ 1000000) (h0 : Pv xs [] H) (hL0 : H L = some (.lst [])) (hl : ∀ r acc H, Pv r acc H → SqT K H a xs)
    (hs : ∀ i x r acc H, H L = some (.lst acc) → acc.length ≤ i → i < 1000000 → Pv (x :: r) acc H → g x (wipe σ vs) H fun σ2 H2 => wipe σ2 vs = wipe σ vs ∧ tt σ2 H2 fun b H3 =>
      if b = true then te σ2 H3 fun y H4 => ∃ acc, H4 L = some (.lst acc) ∧ acc.length < sizeLine ∧ CNx L (i + 1) (Pv r) (upd H4 L (.lst (acc ++ [y]))) else CNx L (i + 1) (Pv r) H3)
    (hd : ∀ acc H, H L = some (.lst acc) → acc.length ≤ xs.length → Pv [] acc H → Q (.ref L) H) : CompP (Itt K a) g tt te vs σ L Q H := by
  refine ⟨fun i m H => m = xs.length - i ∧ i ≤ xs.length ∧ CNx L i (Pv (xs.drop i)) H, ⟨xs.length, by simp, Nat.zero_le _, [], hL0, Nat.le_refl _, h0⟩, ?_⟩
  rintro i m H ⟨rfl, hi, acc, hA, hn, p⟩
  have q := hl _ _ _ p
  by_cases hlt : i < xs.length
  · refine .inr ⟨⟨xs, xs[i], q, by simp [hlt]⟩, CNx L (i + 1) (Pv (xs.drop (i + 1))), fun H' p' => ⟨xs.length - (i + 1), by omega, rfl, hlt, p'⟩, fun x H' y => ?_⟩
    obtain ⟨e, y⟩ := y
    subst e
    rw [drop_cons (y xs q)] at p
    exact hs i x _ acc _ hA hn (by omega) p
  · have e : i = xs.length := by omega
    subst e
    rw [List.drop_length] at p
    exact .inl ⟨⟨xs, q, Nat.le_refl _⟩, hd acc H hA hn p⟩
theorem comp_str (cs : Tx) (Pv : Tx → List V → Hp → Prop) (hz : cs.length ≤ 1000000) (h0 : Pv cs [] H) (hL0 : H L = some (.lst []))
    (hs : ∀ i c r acc H, H L = some (.lst acc) → acc.length ≤ i → i < 1000000 → Pv (c :: r) acc H → g (.str (S [c])) (wipe σ vs) H fun σ2 H2 => wipe σ2 vs = wipe σ vs ∧ tt σ2 H2 fun b H3 =>
      if b = true then te σ2 H3 fun y H4 => ∃ acc, H4 L = some (.lst acc) ∧ acc.length < sizeLine ∧ CNx L (i + 1) (Pv r) (upd H4 L (.lst (acc ++ [y]))) else CNx L (i + 1) (Pv r) H3)
    (hd : ∀ acc H, H L = some (.lst acc) → acc.length ≤ cs.length → Pv [] acc H → Q (.ref L) H) : CompP (Its (S cs)) g tt te vs σ L Q H := by
  refine ⟨fun i m H => m = cs.length - i ∧ i ≤ cs.length ∧ CNx L i (Pv (cs.drop i)) H, ⟨cs.length, by simp, Nat.zero_le _, [], hL0, Nat.le_refl _, h0⟩, ?_⟩
  rintro i m H ⟨rfl, hi, acc, hA, hn, p⟩
  have sz : (S cs).cps.size = cs.length := by simp
  by_cases hlt : i < cs.length
  · refine .inr ⟨by show i < (S cs).cps.size; omega, CNx L (i + 1) (Pv (cs.drop (i + 1))), fun H' p' => ⟨cs.length - (i + 1), by omega, rfl, hlt, p'⟩, fun x H' y => ?_⟩
    obtain ⟨e, c, e2, e3⟩ := y
    subst e e3
    have e4 : cs[i]? = some c := by
      rw [← e2]
      simp
    rw [drop_cons e4] at p
    exact hs i c _ acc _ hA hn (by omega) p
  · have e : i = cs.length := by omega
    subst e
    rw [List.drop_length] at p
    exact .inl ⟨by show (S cs).cps.size ≤ _; omega, hd acc H hA hn p⟩
theorem comp_range {n : Nat} (Pv : Nat → List V → Hp → Prop) (hz : n ≤ 1000000) (h0 : Pv 0 [] H) (hL0 : H L = some (.lst []))
    (hs : ∀ i acc H, i < n → H L = some (.lst acc) → acc.length ≤ i → i < 1000000 → Pv i acc H → g (.int i) (wipe σ vs) H fun σ2 H2 => wipe σ2 vs = wipe σ vs ∧ tt σ2 H2 fun b H3 =>
      if b = true then te σ2 H3 fun y H4 => ∃ acc, H4 L = some (.lst acc) ∧ acc.length < sizeLine ∧ CNx L (i + 1) (Pv (i + 1)) (upd H4 L (.lst (acc ++ [y]))) else CNx L (i + 1) (Pv (i + 1)) H3)
    (hd : ∀ acc H, H L = some (.lst acc) → acc.length ≤ n → Pv n acc H → Q (.ref L) H) : CompP (Itr 0 n) g tt te vs σ L Q H := by
  refine ⟨fun i m H => m = n - i ∧ i ≤ n ∧ CNx L i (Pv i) H, ⟨n, by simp, Nat.zero_le _, [], hL0, Nat.le_refl _, h0⟩, ?_⟩
  rintro i m H ⟨rfl, hi, acc, hA, hn, p⟩
  by_cases hlt : i < n
  · refine .inr ⟨hlt, CNx L (i + 1) (Pv (i + 1)), fun H' p' => ⟨n - (i + 1), by omega, rfl, hlt, p'⟩, fun x H' y => ?_⟩
    obtain ⟨e, e2⟩ := y
    subst e e2
    have e0 : (0 : Int) + (i : Int) = (i : Int) := Int.zero_add _
    rw [e0]
    exact hs i acc _ hlt hA hn (by omega) p
  · have e : i = n := by omega
    subst e
    exact .inl ⟨Nat.le_refl _, hd acc H hA hn p⟩
/-- a comprehension over a range whose element draws: each item as P says -/
theorem comp_draw {n j : Nat} {b : Addr} {G : Hp} (P : V → Hp → Prop) (mono : ∀ v G G', KT G G' → P v G → P v G') (hz : n ≤ 1000000) (B : Bx b G H) (hL : H L = none)
    (hw : ∀ x, wipe ((wipe σ vs).set j (some x)) vs = wipe σ vs)
    (hs : ∀ (i : Nat) G' H' (Q' : VK), i < n → Same G G' → Bx b G' H' → (∀ v G2 H2, Same G' G2 → Bx b G2 H2 → P v G2 → Q' v H2) → te ((wipe σ vs).set j (some (.int i))) H' Q')
    (hd : ∀ acc G' H', Same G G' → Bx b G' H' → G' L = some (.lst acc) → acc.length = n → (∀ v ∈ acc, P v G') → Q (.ref L) H') : CompP (Itr 0 n) (gName j) tYes te vs σ L Q (upd H L (.lst [])) := by
  have B0 := B.alloc (o := .lst []) hL
  have gl : G L = none := B.ex.free hL
  refine comp_range (fun i acc H' => acc.length = i ∧ ∃ G', Same G G' ∧ Bx b G' H' ∧ G' L = some (.lst acc) ∧ ∀ v ∈ acc, P v G') hz ⟨rfl, _, same_new gl, B0, upd_same, fun _ h => nomatch h⟩ upd_same ?_ ?_
  · rintro i acc H' hi hA hn hi2 ⟨hlen, G', s1, B1, hl, hp⟩
    show _ ∧ te _ _ _
    refine ⟨hw _, hs i G' H' _ hi s1 B1 fun v G2 H2 s2 B2 pv => ?_⟩
    have hl2 := s2 _ _ hl
    refine cput (B2.ex _ _ hl2) hn hi2 ⟨by rw [List.length_append, List.length_singleton, hlen], _, same_mut (s1.trans s2) gl, B2.put hl2, upd_same, fun u hu => ?_⟩
    have kt : KT G2 (upd G2 L (.lst (acc ++ [v]))) := KT.put hl2 (by intro xs q; cases q) (by intro o xs q; cases q)
    rcases List.mem_append.mp hu with h | h
    · exact mono _ _ _ kt (mono _ _ _ (KT.of s2) (hp u h))
    · rw [List.mem_singleton.mp h]
      exact mono _ _ _ kt pv
  · rintro acc H' hA hn ⟨hlen, G', s1, B1, hl, hp⟩
    exact hd acc G' H' s1 B1 hl hlen hp
/-- while, by a number that falls -/
theorem loop_while {c : TT} (Pv : Nat → L2.St → Hp → Prop) (m0 : Nat) (h0 : Pv m0 σ H)
    (hs : ∀ m σ H, Pv m σ H → c σ H fun b H1 => if b = true then ∃ m', m' < m ∧ tb { D with nx := Pv m', ct := Pv m', bk := D.nx } σ H1 else D.nx σ H1)
    (mono : ∀ σ H Q Q', (∀ b H1, Q b H1 → Q' b H1) → c σ H Q → c σ H Q') : tWhile c tb D σ H := by
  refine ⟨Pv, ⟨m0, h0⟩, fun m σ H p => ?_⟩
  refine mono σ H _ _ (fun b H1 q => ?_) (hs m σ H p)
  cases b with
  | true =>
    obtain ⟨m', l, q⟩ := q
    exact ⟨Pv m', fun σ' H' p' => ⟨m', l, p'⟩, q⟩
  | false => exact q
end
/-! ### tests whose answer is known -/
theorem vT {A B : Prop} (h : A) : ∃ c, V.bl true = V.bl c ∧ if c = true then A else B := ⟨true, rfl, by rw [if_pos rfl]; exact h⟩
theorem vF {A B : Prop} (h : B) : ∃ c, V.bl false = V.bl c ∧ if c = true then A else B := ⟨false, rfl, by rw [if_neg (fun z => nomatch z)]; exact h⟩
theorem nT {A B : Prop} (h : B) : ∃ c, V.bl true = V.bl c ∧ if c = false then A else B := ⟨true, rfl, by rw [if_neg (fun z => nomatch z)]; exact h⟩
theorem nF {A B : Prop} (h : A) : ∃ c, V.bl false = V.bl c ∧ if c = false then A else B := ⟨false, rfl, by rw [if_pos rfl]; exact h⟩
theorem start1_3 {a b c : Str} {u : V} : L2.start [a, b, c] [u] = [some u, none, none] := rfl
/-! ### slices -/
def cutL {α : Type} (l : List α) (lo hi : Option Int) : List α := (l.drop (HT.sIx l.length 0 lo)).take (HT.sIx l.length l.length hi - HT.sIx l.length 0 lo)
theorem cutS_S (l : Tx) (lo hi : Option Int) : cutS (S l) lo hi = S (cutL l lo hi) := by
  unfold cutS cutL
  rw [S_len]
theorem cutV_L (l : List V) (lo hi : Option Int) : cutV l lo hi = cutL l lo hi := rfl
theorem cutL_from {α : Type} (l : List α) (k : Nat) : cutL l (some (k : Int)) none = l.drop k := by
  unfold cutL
  rw [HT.sIx_nat, HT.sIx_none]
  by_cases h : k ≤ l.length
  · rw [Nat.min_eq_left h, List.take_of_length_le (by rw [List.length_drop]; omega)]
  · rw [Nat.min_eq_right (by omega), List.drop_length, List.drop_of_length_le (by omega), List.take_nil]
theorem cutL_to {α : Type} (l : List α) (k : Nat) : cutL l none (some (k : Int)) = l.take k := by
  unfold cutL
  rw [HT.sIx_nat, HT.sIx_none, List.drop_zero, Nat.sub_zero]
  by_cases h : k ≤ l.length
  · rw [Nat.min_eq_left h]
  · rw [Nat.min_eq_right (by omega), List.take_length, List.take_of_length_le (by omega)]
theorem cutL_mid {α : Type} (l : List α) (i j : Nat) : cutL l (some (i : Int)) (some (j : Int)) = (l.take j).drop i := by
  unfold cutL
  rw [HT.sIx_nat, HT.sIx_nat, List.drop_take]
  by_cases h : i ≤ l.length
  · rw [Nat.min_eq_left h]
    by_cases h2 : j ≤ l.length
    · rw [Nat.min_eq_left h2]
    · rw [Nat.min_eq_right (by omega), List.take_of_length_le (by rw [List.length_drop]; omega), List.take_of_length_le (by rw [List.length_drop]; omega)]
  · rw [Nat.min_eq_right (by omega : l.length ≤ i), List.drop_length, List.drop_of_length_le (by omega : l.length ≤ i)]
    simp
theorem sIx_neg {n d : Nat} {v : Int} (h : v < 0) : HT.sIx n d (some v) = (v + (n : Int)).toNat := by
  show (if v < 0 then _ else _) = _
  rw [if_pos h]
/-- l[:-1] -/
theorem cutL_init {α : Type} (l : List α) : cutL l none (some (-1)) = l.dropLast := by
  unfold cutL
  rw [sIx_neg (by decide), HT.sIx_none, List.drop_zero, Nat.sub_zero, List.dropLast_eq_take]
  congr 1
  omega
/-- l[-1:] -/
theorem cutL_last {α : Type} (l : List α) : cutL l (some (-1)) none = l.drop (l.length - 1) := by
  unfold cutL
  rw [sIx_neg (by decide), HT.sIx_none]
  have e : (-1 + (l.length : Int)).toNat = l.length - 1 := by omega
  rw [e, List.take_of_length_le (by rw [List.length_drop]; omega)]
/-- l[1:-1] -/
theorem cutL_in {α : Type} (l : List α) : cutL l (some 1) (some (-1)) = (l.drop 1).dropLast := by
  unfold cutL
  have e1 : HT.sIx l.length 0 (some 1) = min 1 l.length := HT.sIx_nat _ _ 1
  rw [sIx_neg (by decide), e1, List.dropLast_eq_take, List.length_drop]
  have e : (-1 + (l.length : Int)).toNat = l.length - 1 := by omega
  rw [e]
  cases l with
  | nil => rfl
  | cons a r =>
    have e2 : min 1 (a :: r).length = 1 := by rw [List.length_cons]; omega
    rw [e2]
theorem atI_neg {α : Type} (l : List α) (k : Nat) (h0 : 0 < k) (h : k ≤ l.length) : atI l (-(k : Int)) = l[l.length - k]? := by
  unfold atI ixN
  rw [if_neg (by omega), if_pos (by omega)]
  show l[(-(k : Int) + (l.length : Int)).toNat]? = _
  have e : (-(k : Int) + (l.length : Int)).toNat = l.length - k := by omega
  rw [e]
/-- while, by a number that falls, the test told -/
theorem loop_whileP {c : TT} {tb : TS} {D : Ends} {σ : L2.St} {H : Hp} (Pv : Nat → L2.St → Hp → Prop) (m0 : Nat) (h0 : Pv m0 σ H)
    (hs : ∀ m σ H, Pv m σ H → ∃ b, (∀ R : Bool → Hp → Prop, R b H → c σ H R) ∧ if b = true then ∃ m', m' < m ∧ tb { D with nx := Pv m', ct := Pv m', bk := D.nx } σ H else D.nx σ H) : tWhile c tb D σ H := by
  refine ⟨Pv, ⟨m0, h0⟩, fun m σ H p => ?_⟩
  obtain ⟨b, hb, q⟩ := hs m σ H p
  refine hb _ ?_
  cases b with
  | true =>
    obtain ⟨m', l, q⟩ := q
    exact ⟨Pv m', fun σ' H' p' => ⟨m', l, p'⟩, q⟩
  | false => exact q
theorem start2_3 {a b c : Str} {u v : V} : L2.start [a, b, c] [u, v] = [some u, some v, none] := rfl
theorem start1_8 {a b c d e f g h : Str} {u : V} : L2.start [a, b, c, d, e, f, g, h] [u] = [some u, none, none, none, none, none, none, none] := rfl
theorem start1_1 {a : Str} {u : V} : L2.start [a] [u] = [some u] := rfl
theorem start1_2 {a b : Str} {u : V} : L2.start [a, b] [u] = [some u, none] := rfl
theorem start1_4 {a b c d : Str} {u : V} : L2.start [a, b, c, d] [u] = [some u, none, none, none] := rfl
/-- an if whose test gives b and changes nothing -/
theorem if_pure {t : TT} {u v : TS} {D : Ends} {σ : L2.St} {H : Hp} (b : Bool) (ht : ∀ R : Bool → Hp → Prop, R b H → t σ H R) (h1 : b = true → u D σ H) (h2 : b = false → v D σ H) : tIfS t u v D σ H := by
  refine ht _ ?_
  cases b with
  | true => exact h1 rfl
  | false => exact h2 rfl
/-- .. and may make new objects -/
theorem if_new {t : TT} {u v : TS} {D : Ends} {σ : L2.St} {H : Hp} (b : Bool) (ht : ∀ R : Bool → Hp → Prop, (∀ H', Same H H' → R b H') → t σ H R) (h1 : b = true → ∀ H', Same H H' → u D σ H') (h2 : b = false → ∀ H', Same H H' → v D σ H') : tIfS t u v D σ H := by
  refine ht _ fun H' s => ?_
  cases b with
  | true => exact h1 rfl H' s
  | false => exact h2 rfl H' s
theorem inV_S (x : Tx) (ts : List Tx) : inV (.str (S x)) (ts.map fun t => .str (S t)) = ts.contains x := by
  induction ts with
  | nil => rfl
  | cons t r ih =>
    have e : inV (.str (S x)) ((t :: r).map fun t => .str (S t)) = ((S t == S x) || inV (.str (S x)) (r.map fun t => .str (S t))) := rfl
    rw [e, ih, SX.S_beq, List.contains_cons]
    congr 1
    rw [Bool.eq_iff_iff, beq_iff_eq, beq_iff_eq]
    exact eq_comm
theorem cutL_toneg {α : Type} (l : List α) (k : Nat) (h0 : 0 < k) : cutL l none (some (-(k : Int))) = l.take (l.length - k) := by
  unfold cutL
  rw [sIx_neg (by omega), HT.sIx_none, List.drop_zero, Nat.sub_zero]
  congr 1
  omega
theorem cutL_fromneg {α : Type} (l : List α) (k : Nat) (h0 : 0 < k) : cutL l (some (-(k : Int))) none = l.drop (l.length - k) := by
  unfold cutL
  rw [sIx_neg (by omega), HT.sIx_none]
  have e : (-(k : Int) + (l.length : Int)).toNat = l.length - k := by omega
  rw [e, List.take_of_length_le (by rw [List.length_drop]; omega)]
theorem cutL_negs {α : Type} (l : List α) (i j : Nat) (h0 : 0 < i) (h1 : 0 < j) : cutL l (some (-(i : Int))) (some (-(j : Int))) = (l.take (l.length - j)).drop (l.length - i) := by
  unfold cutL
  rw [sIx_neg (by omega), sIx_neg (by omega), List.drop_take]
  have e : (-(i : Int) + (l.length : Int)).toNat = l.length - i := by omega
  have e2 : (-(j : Int) + (l.length : Int)).toNat = l.length - j := by omega
  rw [e, e2]
theorem start2_4 {a b c d : Str} {u v : V} : L2.start [a, b, c, d] [u, v] = [some u, some v, none, none] := rfl
theorem start2_9 {a b c d e f g h i : Str} {u v : V} : L2.start [a, b, c, d, e, f, g, h, i] [u, v] = [some u, some v, none, none, none, none, none, none, none] := rfl
theorem in_tup {K : PySem.W.Frag} (neg : Bool) (x : Tx) (ts : List Tx) {H : Hp} {Q : V → Hp → Prop} {p : Addr} (hp : H p = none) (q : ∀ H', Same H H' → Q (.bl (if neg then !ts.contains x else ts.contains x)) H') : rIn K neg (.str (S x)) (.ref p) (upd H p (.tup (ts.map fun t => .str (S t)))) Q := by
  refine ⟨p, _, rfl, .inr (st_of upd_same), rfl, ?_, ?_⟩
  · rw [List.all_map]
    exact List.all_eq_true.mpr fun _ _ => rfl
  · rw [inV_S]
    exact q _ (same_new hp)
theorem in_lst {K : PySem.W.Frag} (neg : Bool) (x : Tx) (ts : List Tx) {H : Hp} {Q : V → Hp → Prop} {p : Addr} (hp : H p = none) (q : ∀ H', Same H H' → Q (.bl (if neg then !ts.contains x else ts.contains x)) H') : rIn K neg (.str (S x)) (.ref p) (upd H p (.lst (ts.map fun t => .str (S t)))) Q := by
  refine ⟨p, _, rfl, .inl (sq_of upd_same), rfl, ?_, ?_⟩
  · rw [List.all_map]
    exact List.all_eq_true.mpr fun _ _ => rfl
  · rw [inV_S]
    exact q _ (same_new hp)
theorem in_lst' {K : PySem.W.Frag} (neg : Bool) (x : Tx) (ts : List Tx) {H : Hp} {Q : V → Hp → Prop} {p : Addr} (hp : H p = some (.lst (ts.map fun t => .str (S t)))) (q : Q (.bl (if neg then !ts.contains x else ts.contains x)) H) : rIn K neg (.str (S x)) (.ref p) H Q := by
  refine ⟨p, _, rfl, .inl (sq_of hp), rfl, ?_, ?_⟩
  · rw [List.all_map]
    exact List.all_eq_true.mpr fun _ _ => rfl
  · rw [inV_S]
    exact q
theorem inK {X : Cx} {K : PySem.W.Frag} {c : Value → Value → Sem Value} {neg : Bool} (o : OpR X c (rIn X.K neg)) (e : X.K = K) : OpR X c (rIn K neg) := e ▸ o
theorem deepK {X : Cx} {K : PySem.W.Frag} {c : Value → Value → Sem Value} {r : PySem.W.Frag → R2} (o : OpR X c (r X.K)) (e : X.K = K) : OpR X c (r K) := e ▸ o
/-- an if whose ends meet again: M what stands then -/
theorem if_fin {t : TT} {u v : TS} {D : Ends} {σ : L2.St} {H : Hp} (M : L2.St → Hp → Prop) (fin : ∀ σ' H', M σ' H' → D.nx σ' H') (h : ∀ nx' : L2.St → Hp → Prop, (∀ σ' H', M σ' H' → nx' σ' H') → tIfS t u v { D with nx := nx' } σ H) : tIfS t u v D σ H := h D.nx fin
theorem start1_10 {a b c d e f g h i j : Str} {u : V} : L2.start [a, b, c, d, e, f, g, h, i, j] [u] = [some u, none, none, none, none, none, none, none, none, none] := rfl
def tyD : PyData → String
  | .none => "NoneType"
  | .bool _ => "bool"
  | .int _ => "int"
  | .str _ => "str"
  | .list _ => "list"
  | .tuple _ => "tuple"
  | .dict _ => "dict"
theorem ty_seq {K : PySem.W.Frag} {H : Hp} {a : Addr} {xs : List V} (h : SqL K H a xs) : TyX K H (.ref a) (.type "list") := by
  rcases h with (h | ⟨o, h⟩) | ⟨o, its, n, h, c, _⟩
  · exact .base (.lst h)
  · exact .base (.frz h)
  · exact .kList h c
theorem ty_tup {K : PySem.W.Frag} {H : Hp} {a : Addr} {xs : List V} (h : SqT K H a xs) : TyX K H (.ref a) (.type "tuple") := by
  rcases h with (h | ⟨o, h⟩) | ⟨o, its, n, h, c, _⟩
  · exact .base (.tup h)
  · exact .fTuple h
  · exact .kTuple h c
theorem ty_dp {K : PySem.W.Frag} {H : Hp} {v : V} {d : PyData} (h : Dp K H v d) : TyX K H v (.type (tyD d)) := by
  cases h with
  | non => exact .base .non
  | bl b => exact .base (.bl b)
  | int i => exact .base (.int i)
  | str x => exact .base (.str x)
  | lst h _ => exact ty_seq h
  | tup h _ => exact ty_tup h
/-- isinstance of such a value and a built-in class -/
theorem isi {K : PySem.W.Frag} {H : Hp} {v : V} {d : PyData} {n : String} {b : Bool} {Q : VK} (h : Dp K H v d) (e : kitB (tyD d) n = some b) (q : Q (.bl b) H) : rIsi K [v, .ty n] H Q :=
  ⟨v, .ty n, _, _, b, rfl, .ty n, ty_dp h, kit_ty e, q⟩
/-! ### the draws -/
abbrev s_l_take : Stmt := (top 8)
theorem sc_l_take : FnScope ["_law_box", "_law_many", "_law_number"] ["_law_box", "_law_many"] (defScope s_l_take) := ⟨rfl, rfl, rfl, by decide +kernel, rfl, by decide +kernel, by decide +kernel⟩

def sp_take : Sp := fun vs H Q _ => ∃ (b : Addr) (n : Int) (G : Hp), vs = [.ref b, .int n] ∧ 0 < n ∧ n < 1073741824 ∧ Bx b G H ∧ ∀ (r : Nat) H', (r : Int) < n → Bx b G H' → Q (.int r) H'
theorem ok_take {P : Program} {w : World} {K : PySem.W.Frag} {mg : Str → Option Value} {base : Heap} {f : Addr} {fd : FuncData} (F : FunS K "_law_take" s_l_take f fd) : FnOk P w K mg base CX0 1 f fd ["_law_box", "_law_many"] sp_take := by
  refine F.ok sc_l_take (fun vs H Q E h => ?_) (fun cdv A outer s H vs Q E hr h => ?_)
  · obtain ⟨b, n, G, rfl, _⟩ := h
    rfl
  obtain ⟨b, n, G, rfl, h0, h1, B, k'⟩ := h
  have k : ∀ (r : Int) H', 0 ≤ r → r < n → Bx b G H' → Q (.int r) H' := fun r H' h2 h3 B' => by
    have q := k' r.toNat H' (by omega) B'
    rw [Int.toNat_of_nonneg h2] at q
    exact q
  refine ⟨_, PSs.nox (pss_cons (ps_if (pt_cmpR (op_eqD hr.units) (pe_ix ix_list (pv 0) pe_int (fun _ _ => rfl)) (pe_lst pa_nil) (nomark _))
    (pss_cons (ps_asg (pe_op op_mod (pe_op op_mul (pe_ix ix_list (pv 0) pe_int (fun _ _ => rfl)) pe_int) pe_int) (pg_sub (pv 0) pe_int set_list))
  (pss_one (ps_ret (pe_op op_mod (pe_op op_fdiv (pe_ix ix_list (pv 0) pe_int (fun _ _ => rfl)) pe_int) (pv 1)))))
    pss_nil)
  (pss_cons (ps_set (i := 2) sc_l_take.nd rfl (.inl rfl) (pe_ix ix_list (pe_ix ix_list (pv 0) pe_int (fun _ _ => rfl)) pe_int (fun _ _ => rfl)))
  (pss_cons (ps_asg (pe_op op_fdivN (pv 2) (pv 1)) (pg_sub (pe_ix ix_list (pv 0) pe_int (fun _ _ => rfl)) pe_int set_list))
  (pss_cons (ps_if (PW.pt (pw_or (pt_cmpR op_eq (pe_ix ix_list (pe_ix ix_list (pv 0) pe_int (fun _ _ => rfl)) pe_int (fun _ _ => rfl)) pe_int (nomark _)) (pw_or1 (pt_cmpR op_eq (pe_ix ix_list (pe_ix ix_list (pv 0) pe_int (fun _ _ => rfl)) pe_int (fun _ _ => rfl)) (pe_un un_neg pe_int) (nomark _)))))
    (pss_one (ps_expr (pe_bm PySem.F.plainAttrs_list PySem.F.slot_list_pop PySem.F.type_list_pop mt_popAt (pe_ix ix_list (pv 0) pe_int (fun _ _ => rfl)) (pa_cons pe_int pa_nil))))
    pss_nil)
  (pss_one (ps_ret (pe_op op_mod (pv 2) (pv 1)))))))), ?_⟩
  obtain ⟨sm, gb, l, ns, s, gl, hb, hl, s0, s1⟩ := B
  simp only [tSeq, tAsg, tAnd, tOr, tNot, tTest, tB, tOp, tUn, tCB, tCons, tNil, tVar, tC, gName, rI0, rI, rU, rEq, rNe, rIxS, rIxL, rIxT, tRet, tRetN, tTup, tLst, tSl, tPart, tNoPart, rSlS, tIf, tIfS, tNext, tDrop, tCall, tBM, tBM0, tAndV, tOrV, tNotV, tM0, tM1, gSub, rSetL, tMeth, tMake, tFld, tChain, tIsN, tNotN,
  List.set_cons_zero, List.set_cons_succ, exists_eq_left', exists_eq_left, exists_eq, V.int.injEq, V.str.injEq, V.bl.injEq, V.ref.injEq, List.cons.injEq, and_true, true_and, List.getElem?_cons_zero, List.getElem?_cons_succ, Option.some.injEq, List.append_nil, exists_and_left, cxOf_K, false_and, and_false, exists_false, false_or, or_false, exists_eq', exists_const, sg_eq, S_eq, S_toList, S_ne, tFor_eq, tLc_eq, iList_eq, iTup_eq, iRng1_eq, iStr_eq, decide_eq_true_eq, Bool.not_eq_true', decide_eq_false_iff_not, if_true, if_false, Bool.false_eq_true, reduceCtorEq, Bool.true_eq_false, decide_true, decide_false, start2]
  have nlb : l ≠ b := ne_of hl hb (by
    intro q
    cases ns with
    | nil => cases q
    | cons n r => cases q)
  refine ⟨_, sq_of hb, _, rfl, Nat.zero_le _, ?_⟩
  (intro p np; generalize hqp : upd H p _ = H1; obtain ⟨e1, hp⟩ := al_ np hqp; clear hqp)
  have hb1 := e1 _ _ hb
  have hl1 := e1 _ _ hl
  refine ⟨_, _, .lst (sq_of hl1) (dp_ints ns), .lst (sq_of hp) .nil, shaped_ints ns, rfl, _, rfl, ?_⟩
  rw [eqv_nil]
  cases ns with
  | nil =>
    simp only [List.map_nil, List.isEmpty_nil, if_true]
    refine ⟨_, sq_of hb1, _, rfl, _, rfl, .inl ⟨by omega, by omega⟩, by decide, _, hb1, _, rfl, _, sq_of upd_same, _, rfl, _, rfl, ⟨by decide, by decide⟩, h0, ?_⟩
    refine k _ _ (Int.emod_nonneg _ (by omega)) (Int.emod_lt_of_pos _ h0) ⟨fun a u e => ?_, gb, l, [], _, gl, upd_same, ?_, Int.emod_nonneg _ (by decide), Int.emod_lt_of_pos _ (by decide)⟩
    · rw [upd_ne (ne_of_none e gb)]
      exact e1 _ _ (sm _ _ e)
    · rw [upd_ne nlb]
      exact hl1
  | cons z r =>
    simp only [List.map_cons, List.isEmpty_cons, Bool.false_eq_true, if_false] at hl1 ⊢
    refine ⟨_, sq_of hb1, _, rfl, _, rfl, _, sq_of hl1, _, at0 _ _, _, rfl, ⟨by omega, by omega⟩, ?_⟩
    refine ⟨_, sq_of hb1, _, rfl, _, rfl, _, hl1, _, ix0 _, ?_⟩
    have hb2 : upd H1 l (.lst (V.int (z.fdiv n) :: List.map V.int r)) b = some (.lst [.ref l, .int s]) := by
      rw [upd_ne nlb.symm]
      exact hb1
    have fr : ∀ (xs : List V) a u, G a = some u → upd H1 l (.lst xs) a = some u := fun xs a u e => by
      rw [upd_ne (ne_of_none e gl)]
      exact e1 _ _ (sm _ _ e)
    have fin : ∀ (ms : List Int) (H' : Hp), H' = upd H1 l (.lst (ms.map V.int)) → Q (.int (z % n)) H' := fun ms H' e => by
      subst e
      refine k _ _ (Int.emod_nonneg _ (by omega)) (Int.emod_lt_of_pos _ h0) ⟨fr _, gb, l, ms, s, gl, ?_, upd_same, s0, s1⟩
      rw [upd_ne nlb.symm]
      exact hb1
    refine ⟨_, sq_of hb2, _, rfl, _, rfl, _, sq_of upd_same, _, at0 _ _, rfl, ?_⟩
    simp only [List.set_cons_zero]
    refine ite2 (fun hz => ?_) (fun hz => ?_)
    · refine ⟨_, sq_of hb2, _, rfl, .inl ⟨rfl, _, sq_of upd_same⟩, l, _, 0, 0, _, rfl, rfl, upd_same, by decide, by decide, ?_, rfl, _, rfl, h0, fin r _ ?_⟩
      · simp [seqIndex?]
      · rw [upd_upd]
        rfl
    · refine ⟨_, sq_of hb2, _, rfl, _, rfl, _, sq_of upd_same, _, at0 _ _, rfl, ?_⟩
      refine ite2 (fun hz => ?_) (fun hz => ?_)
      · refine ⟨_, sq_of hb2, _, rfl, .inl ⟨rfl, _, sq_of upd_same⟩, l, _, 0, 0, _, rfl, rfl, upd_same, by decide, by decide, ?_, rfl, _, rfl, h0, fin r _ ?_⟩
        · simp [seqIndex?]
        · rw [upd_upd]
          rfl
      · exact ⟨_, rfl, h0, fin (z.fdiv n :: r) _ rfl⟩
theorem take_ {b : Addr} {n : Int} {G H : Hp} {Q : VK} {E : XK} (B : Bx b G H) (h0 : 0 < n) (h1 : n < 1073741824) (k : ∀ (r : Nat) H', (r : Int) < n → Bx b G H' → Q (.int r) H') : sp_take [.ref b, .int n] H Q E := ⟨b, n, G, rfl, h0, h1, B, k⟩
/-- "..".join(["signs"[take(box, m)] for k in range(n)]): the list of signs -/
theorem signs_draw {n j : Nat} {b : Addr} {G H : Hp} {te : TE} {vs : List Nat} {σ : L2.St} {L : Addr} {Q : VK} (p : Nat → Prop) (hz : n ≤ 1000000) (B : Bx b G H) (hL : H L = none)
    (hw : ∀ x, wipe ((wipe σ vs).set j (some x)) vs = wipe σ vs)
    (hs : ∀ (i : Nat) G' H' (Q' : VK), i < n → Same G G' → Bx b G' H' → (∀ c G2 H2, Same G' G2 → Bx b G2 H2 → p c → Q' (.str (S [c])) H2) → te ((wipe σ vs).set j (some (.int i))) H' Q')
    (hd : ∀ (cs : Tx) G' H', Same G G' → Bx b G' H' → G' L = some (.lst ((cs.map fun c => S [c]).map V.str)) → cs.length = n → (∀ c ∈ cs, p c) → Q (.ref L) H') : CompP (Itr 0 n) (gName j) tYes te vs σ L Q (upd H L (.lst [])) := by
  refine comp_draw (fun v _ => ∃ c, p c ∧ v = .str (S [c])) (fun _ _ _ _ h => h) hz B hL hw (fun i G' H' Q' hi s1 B1 q => hs i G' H' Q' hi s1 B1 fun c G2 H2 s2 B2 pc => q _ G2 H2 s2 B2 ⟨c, pc, rfl⟩) ?_
  intro acc G' H' s1 B1 hl hlen hp
  obtain ⟨cs, e, hc⟩ : ∃ cs : Tx, acc = (cs.map fun c => S [c]).map V.str ∧ ∀ c ∈ cs, p c := by
    clear hl hlen
    induction acc with
    | nil => exact ⟨[], rfl, fun _ h => nomatch h⟩
    | cons v r ih =>
      obtain ⟨cs, e, hc⟩ := ih fun v hv => hp v (List.mem_cons_of_mem _ hv)
      obtain ⟨c, pc, ev⟩ := hp v List.mem_cons_self
      refine ⟨c :: cs, by rw [e, ev]; rfl, fun d hd => ?_⟩
      rcases List.mem_cons.mp hd with h | h
      · rw [h]
        exact pc
      · exact hc d h
  subst e
  exact hd cs G' H' s1 B1 hl (by simpa using hlen) hc
theorem join_signs (cs : Tx) : Txt.join (S []) (cs.map fun c => S [c]) = S cs := by
  have e : (cs.map fun c => S [c]) = (cs.map fun c => [c]).map SX.S := by rw [List.map_map]; rfl
  rw [e]
  refine (SX.join_S [] _).trans (congrArg SX.S ?_)
  have h : ∀ (a : Tx), TL.joinL [] (a.map fun c => [c]) = a := fun a => by
    induction a with
    | nil => rfl
    | cons x r ih =>
      cases r with
      | nil => rfl
      | cons y t =>
        show [x] ++ ([] ++ TL.joinL [] ((y :: t).map fun c => [c])) = x :: y :: t
        rw [ih]
        rfl
  exact h cs
theorem signs_size (cs : Tx) (h : cs.length ≤ 1000000) : ((cs.map fun c => S [c]).map (·.length)).sum + (cs.map fun c => S [c]).length * (S []).length ≤ 16777216 := by
  have e : ((cs.map fun c => S [c]).map (·.length)).sum = cs.length := by
    clear h
    induction cs with
    | nil => rfl
    | cons c r ih =>
      rw [List.map_cons, List.map_cons, List.sum_cons, ih, S_len, List.length_cons]
      simp only [List.length_cons, List.length_nil]
      omega
  rw [e, S_len]
  simp only [List.length_nil, Nat.mul_zero, Nat.add_zero]
  omega
abbrev s_l_begun : Stmt := (top 7)
theorem sc_l_begun : FnScope ["_law_script", "_law_stirred", "_law_cell"] ["_law_script"] (defScope s_l_begun) := ⟨rfl, rfl, rfl, by decide +kernel, rfl, by decide +kernel, by decide +kernel⟩

def sp_begun (K : PySem.W.Frag) : Sp := fun vs H Q _ => ∃ (a : Addr) (ns : List Int), vs = [.ref a] ∧ SqL K H a (ns.map V.int) ∧ ns.length ≤ 63 ∧ ∀ b G H', Same H G → Bx b G H' → Q (.ref b) H'
section
variable {P : Program} {w : World} {K : PySem.W.Frag} {mg : Str → Option Value} {base : Heap}
theorem ok_begun {f : Addr} {fd : FuncData} (F : FunS K "_law_begun" s_l_begun f fd) (b_int : mg "int" = none) (b_len : mg "len" = none) (b_list : mg "list" = none) : FnOk P w K mg base CX0 1 f fd ["_law_script"] (sp_begun K) := by
  refine F.ok sc_l_begun (fun vs H Q E h => ?_) (fun cdv A outer s H vs Q E hr h => ?_)
  · obtain ⟨a, ns, rfl, _⟩ := h
    rfl
  obtain ⟨a, ns, rfl, hS, hn, k⟩ := h
  refine ⟨_, PSs.nox (pss_cons (ps_set (i := 1) sc_l_begun.nd rfl (.inl rfl) pe_int)
  (pss_cons (ps_for PassesOwn.never rfl (pi_list (pv 0)) (pg_name (i := 2) sc_l_begun.nd rfl (.inl rfl))
    (pss_one (ps_set (i := 1) sc_l_begun.nd rfl (.inl rfl) (pe_op op_mod (pe_op op_add (pe_op op_add (pe_op op_mul (pv 1) pe_int) (pe_op op_mul (pv 2) pe_int)) pe_int) pe_int))))
  (pss_one (ps_ret (pe_lst (pa_cons (pe_callTy call_list_of (by rfl) b_list (by decide +kernel) (pa_cons (pv 0) pa_nil)) (pa_cons (pe_op op_mul (pv 1) (pe_callTy call_int1 (by rfl) b_int (by decide +kernel) (pa_cons (pe_cmpR op_gt (pe_callB call_len_seq (by rfl) b_len PySem.boot_len (pa_cons (pv 0) pa_nil)) pe_int (nomark _)) pa_nil))) pa_nil))))))), ?_⟩
  simp only [tSeq, tAsg, tAnd, tOr, tNot, tTest, tB, tOp, tUn, tCB, tCons, tNil, tVar, tC, gName, rI0, rI, rU, rEq, rNe, rIxS, rIxL, rIxT, tRet, tRetN, tTup, tLst, tSl, tPart, tNoPart, rSlS, tIf, tIfS, tNext, tDrop, tCall, tBM, tBM0, tAndV, tOrV, tNotV, tM0, tM1, gSub, rSetL, tMeth, tMake, tFld, tChain, tIsN, tNotN,
  List.set_cons_zero, List.set_cons_succ, exists_eq_left', exists_eq_left, exists_eq, V.int.injEq, V.str.injEq, V.bl.injEq, V.ref.injEq, List.cons.injEq, and_true, true_and, List.getElem?_cons_zero, List.getElem?_cons_succ, Option.some.injEq, List.append_nil, exists_and_left, cxOf_K, false_and, and_false, exists_false, false_or, or_false, exists_eq', exists_const, sg_eq, S_eq, S_toList, S_ne, tFor_eq, tLc_eq, iList_eq, iTup_eq, iRng1_eq, iStr_eq, decide_eq_true_eq, Bool.not_eq_true', decide_eq_false_iff_not, if_true, if_false, Bool.false_eq_true, reduceCtorEq, Bool.true_eq_false, decide_true, decide_false, start1_3]
  refine ⟨⟨_, hS⟩, loop_list (ns.map V.int) (fun r σ H' => ∃ (i : Int) (z : Option V) (ms : List Int), r = ms.map V.int ∧ σ = [some (.ref a), some (.int i), z] ∧ H' = H ∧ 0 ≤ i ∧ i < 2147483647) ⟨0, none, ns, rfl, rfl, rfl, by decide, by decide⟩ ?_ ?_ ?_⟩
  · rintro r σ H' ⟨i, z, ms, rfl, rfl, rfl, h0, h1⟩
    exact hS
  · rintro x r σ H' ⟨i, z, ms, e, rfl, rfl, h0, h1⟩
    cases ms with
    | nil => cases e
    | cons m ms =>
      simp only [List.map_cons, List.cons.injEq] at e
      obtain ⟨rfl, rfl⟩ := e
      simp only [tSeq, tAsg, tAnd, tOr, tNot, tTest, tB, tOp, tUn, tCB, tCons, tNil, tVar, tC, gName, rI0, rI, rU, rEq, rNe, rIxS, rIxL, rIxT, tRet, tRetN, tTup, tLst, tSl, tPart, tNoPart, rSlS, tIf, tIfS, tNext, tDrop, tCall, tBM, tBM0, tAndV, tOrV, tNotV, tM0, tM1, gSub, rSetL, tMeth, tMake, tFld, tChain, tIsN, tNotN,
  List.set_cons_zero, List.set_cons_succ, exists_eq_left', exists_eq_left, exists_eq, V.int.injEq, V.str.injEq, V.bl.injEq, V.ref.injEq, List.cons.injEq, and_true, true_and, List.getElem?_cons_zero, List.getElem?_cons_succ, Option.some.injEq, List.append_nil, exists_and_left, cxOf_K, false_and, and_false, exists_false, false_or, or_false, exists_eq', exists_const, sg_eq, S_eq, S_toList, S_ne, tFor_eq, tLc_eq, iList_eq, iTup_eq, iRng1_eq, iStr_eq, decide_eq_true_eq, Bool.not_eq_true', decide_eq_false_iff_not, if_true, if_false, Bool.false_eq_true, reduceCtorEq, Bool.true_eq_false, decide_true, decide_false]
      refine ⟨.inl ⟨by omega, by omega⟩, .inr ⟨by decide, by decide⟩, by decide, ?_⟩
      exact ⟨_, _, ms, rfl, ⟨rfl, rfl⟩, Int.emod_nonneg _ (by decide), Int.emod_lt_of_pos _ (by decide)⟩
  · rintro σ H' ⟨i, z, ms, e, rfl, rfl, h0, h1⟩
    simp only [tSeq, tAsg, tAnd, tOr, tNot, tTest, tB, tOp, tUn, tCB, tCons, tNil, tVar, tC, gName, rI0, rI, rU, rEq, rNe, rIxS, rIxL, rIxT, tRet, tRetN, tTup, tLst, tSl, tPart, tNoPart, rSlS, tIf, tIfS, tNext, tDrop, tCall, tBM, tBM0, tAndV, tOrV, tNotV, tM0, tM1, gSub, rSetL, tMeth, tMake, tFld, tChain, tIsN, tNotN,
  List.set_cons_zero, List.set_cons_succ, exists_eq_left', exists_eq_left, exists_eq, V.int.injEq, V.str.injEq, V.bl.injEq, V.ref.injEq, List.cons.injEq, and_true, true_and, List.getElem?_cons_zero, List.getElem?_cons_succ, Option.some.injEq, List.append_nil, exists_and_left, cxOf_K, false_and, and_false, exists_false, false_or, or_false, exists_eq', exists_const, sg_eq, S_eq, S_toList, S_ne, tFor_eq, tLc_eq, iList_eq, iTup_eq, iRng1_eq, iStr_eq, decide_eq_true_eq, Bool.not_eq_true', decide_eq_false_iff_not, if_true, if_false, Bool.false_eq_true, reduceCtorEq, Bool.true_eq_false, decide_true, decide_false]
    refine ⟨_, .inl hS, ?_⟩
    (intro l nl; generalize hql : upd H' l _ = H1; obtain ⟨e1, f1⟩ := al_ nl hql; clear hql)
    refine ⟨_, .inl (same_l e1 hS), ?_⟩
    refine ⟨.inl ⟨by omega, by omega⟩, (size_le (by simp only [List.length_cons, List.length_nil]; decide)), ?_⟩
    (intro b nb; generalize hqb : upd H1 b _ = H2; obtain ⟨e2, f2⟩ := al_ nb hqb; clear hqb)
    have nlb : l ≠ b := ne_of_none f1 nb
    refine k b H' H2 (Same.refl _) ⟨e1.trans e2, e1.free nb, l, ns, _, nl, f2, e2 _ _ f1, ?_, ?_⟩
    · split <;> omega
    · split <;> omega
end
/-! ### words, endings -/
theorem Bx.weak {b : Addr} {G G' H : Hp} (s : Same G G') (B : Bx b G' H) : Bx b G H := by
  obtain ⟨s0, gb, l, ns, t, gl, r⟩ := B
  exact ⟨s.trans s0, s.free gb, l, ns, t, s.free gl, r⟩
theorem Bx.same {b : Addr} {G H H' : Hp} (B : Bx b G H) (s : Same H H') : Bx b G H' := by
  obtain ⟨s0, gb, l, ns, t, gl, hb, hl, r⟩ := B
  exact ⟨s0.trans s, gb, l, ns, t, gl, s _ _ hb, s _ _ hl, r⟩
/-- a word's signs: small letters, figures, ' and - -/
def wsign (c : Nat) : Bool := (97 ≤ c && c ≤ 122) || (48 ≤ c && c ≤ 57) || c == 39 || c == 45
def wordOk (t : Tx) : Prop := 1 ≤ t.length ∧ t.length ≤ 16 ∧ ∀ c ∈ t, wsign c = true
theorem wsign_lt {c : Nat} (h : wsign c = true) : c < 128 := by
  simp only [wsign, Bool.or_eq_true, Bool.and_eq_true, decide_eq_true_eq, beq_iff_eq] at h
  omega
def sp_word : Sp := fun vs H Q _ => ∃ (b : Addr) (G : Hp), vs = [.ref b] ∧ Bx b G H ∧ ∀ (t : Tx) H', wordOk t → Bx b G H' → Q (.str (S t)) H'
abbrev s_l_word : Stmt := (top 9)
theorem sc_l_word : FnScope ["_law_box", "_law_some", "_law_many", "_law_k"] ["_law_box"] (defScope s_l_word) := ⟨rfl, rfl, rfl, by decide +kernel, rfl, by decide +kernel, by decide +kernel⟩

section
variable {P : Program} {w : World} {K : PySem.W.Frag} {mg : Str → Option Value} {base : Heap}
theorem ok_word {f : Addr} {fd : FuncData} (F : FunS K "_law_word" s_l_word f fd) (b_len : mg "len" = none) (b_range : mg "range" = none) (c_l_take : Cal P w K mg base CX0 1 "_law_take" sp_take) : FnOk P w K mg base CX0 2 f fd ["_law_box"] sp_word := by
  refine F.ok sc_l_word (fun vs H Q E h => ?_) (fun cdv A outer s H vs Q E hr h => ?_)
  · obtain ⟨b, G, rfl, _⟩ := h
    rfl
  obtain ⟨b, G, rfl, B, k⟩ := h
  refine ⟨_, PSs.nox (pss_cons (ps_set (i := 1) sc_l_word.nd rfl (.inr rfl) (pe_ix ix_list (pe_lst (pa_cons pe_str (pa_cons pe_str (pa_cons pe_str pa_nil)))) (pe_c c_l_take hr (by first | decide | omega) (by rfl) (pa_cons (pv 0) (pa_cons pe_int pa_nil))) (fun _ _ => rfl)))
  (pss_cons (ps_set (i := 2) sc_l_word.nd rfl (.inl rfl) (pe_op op_add pe_int (pe_c c_l_take hr (by first | decide | omega) (by rfl) (pa_cons (pv 0) (pa_cons pe_int pa_nil)))))
  (pss_cons (ps_if (pt_cmpR op_eq (pe_c c_l_take hr (by first | decide | omega) (by rfl) (pa_cons (pv 0) (pa_cons pe_int pa_nil))) pe_int (nomark _))
    (pss_one (ps_set (i := 2) sc_l_word.nd rfl (.inl rfl) (pe_op op_add pe_int (pe_c c_l_take hr (by first | decide | omega) (by rfl) (pa_cons (pv 0) (pa_cons pe_int pa_nil))))))
    pss_nil)
  (pss_one (ps_ret (pe_join pe_str (pe_lc (own := [("_law_k", 3)]) rfl sc_l_word.nd (pi_range1 (by rfl) b_range (pa_cons (pv 2) pa_nil)) (blkOk_by (N := ["_law_box", "_law_some", "_law_many", "_law_k"]) (sc := defScope s_l_word) (own := [("_law_k", 3)]) (by decide +kernel)) (fun _ _ _ _ _ => (pg_name (i := 3) sc_l_word.nd rfl (.inl rfl))) (fun _ _ _ _ _ => pts_nil) (fun _ _ _ _ _ => (pe_ix ix_str (pv 1) (pe_c c_l_take hr (by first | decide | omega) (by rfl) (pa_cons (pv 0) (pa_cons (pe_callB call_len_str (by rfl) b_len PySem.boot_len (pa_cons (pv 1) pa_nil)) pa_nil))) (fun _ _ => rfl)))))))))), ?_⟩
  simp only [tSeq, tAsg, tAnd, tOr, tNot, tTest, tB, tOp, tUn, tCB, tCons, tNil, tVar, tC, gName, rI0, rI, rU, rEq, rNe, rIxS, rIxL, rIxT, tRet, tRetN, tTup, tLst, tSl, tPart, tNoPart, rSlS, tIf, tIfS, tNext, tDrop, tCall, tBM, tBM0, tAndV, tOrV, tNotV, tM0, tM1, gSub, rSetL, tMeth, tMake, tFld, tChain, tIsN, tNotN,
  List.set_cons_zero, List.set_cons_succ, exists_eq_left', exists_eq_left, exists_eq, V.int.injEq, V.str.injEq, V.bl.injEq, V.ref.injEq, List.cons.injEq, and_true, true_and, List.getElem?_cons_zero, List.getElem?_cons_succ, Option.some.injEq, List.append_nil, exists_and_left, cxOf_K, false_and, and_false, exists_false, false_or, or_false, exists_eq', exists_const, sg_eq, S_eq, S_toList, S_ne, tFor_eq, tLc_eq, iList_eq, iTup_eq, iRng1_eq, iStr_eq, decide_eq_true_eq, Bool.not_eq_true', decide_eq_false_iff_not, if_true, if_false, Bool.false_eq_true, reduceCtorEq, Bool.true_eq_false, decide_true, decide_false, lit_97_101_105_111_117_115_116_120_121_122, lit_97_98_99_100_101_102_103_104_105_106_107_108_109_110_111_112_113_114_115_116_117_118_119_120_121_122, lit_97_101_104_110_114_115_119_121_48_49_50_51_52_53_54_55_56_57_39_45, lit_, start1_4]
  refine ⟨(size_le (by simp only [List.length_cons, List.length_nil]; decide)), ?_⟩
  (intro p np; generalize hqp : upd _ p _ = H1; obtain ⟨G1, gp, e1, B1, f1⟩ := alB_ B np hqp; clear hqp np)
  refine take_ B1 (by decide) (by decide) fun r1 H2 hr1 B2 => ?_
  simp only [tSeq, tAsg, tAnd, tOr, tNot, tTest, tB, tOp, tUn, tCB, tCons, tNil, tVar, tC, gName, rI0, rI, rU, rEq, rNe, rIxS, rIxL, rIxT, tRet, tRetN, tTup, tLst, tSl, tPart, tNoPart, rSlS, tIf, tIfS, tNext, tDrop, tCall, tBM, tBM0, tAndV, tOrV, tNotV, tM0, tM1, gSub, rSetL, tMeth, tMake, tFld, tChain, tIsN, tNotN,
  List.set_cons_zero, List.set_cons_succ, exists_eq_left', exists_eq_left, exists_eq, V.int.injEq, V.str.injEq, V.bl.injEq, V.ref.injEq, List.cons.injEq, and_true, true_and, List.getElem?_cons_zero, List.getElem?_cons_succ, Option.some.injEq, List.append_nil, exists_and_left, cxOf_K, false_and, and_false, exists_false, false_or, or_false, exists_eq', exists_const, sg_eq, S_eq, S_toList, S_ne, tFor_eq, tLc_eq, iList_eq, iTup_eq, iRng1_eq, iStr_eq, decide_eq_true_eq, Bool.not_eq_true', decide_eq_false_iff_not, if_true, if_false, Bool.false_eq_true, reduceCtorEq, Bool.true_eq_false, decide_true, decide_false]
  obtain ⟨cs, hcs, hin, hlen⟩ : ∃ cs : Tx, atI [V.str (S [97, 101, 105, 111, 117, 115, 116, 120, 121, 122]), V.str (S [97, 98, 99, 100, 101, 102, 103, 104, 105, 106, 107, 108, 109, 110, 111, 112, 113, 114, 115, 116, 117, 118, 119, 120, 121, 122]), V.str (S [97, 101, 104, 110, 114, 115, 119, 121, 48, 49, 50, 51, 52, 53, 54, 55, 56, 57, 39, 45])] (r1 : Int) = some (.str (S cs)) ∧ (∀ c ∈ cs, wsign c = true) ∧ 0 < cs.length ∧ cs.length < 100 := by
    match r1, hr1 with
    | 0, _ => exact ⟨_, rfl, by decide, by decide, by decide⟩
    | 1, _ => exact ⟨_, rfl, by decide, by decide, by decide⟩
    | 2, _ => exact ⟨_, rfl, by decide, by decide, by decide⟩
    | n + 3, h => exact absurd h (by omega)
  refine ⟨_, sq_of (B2.ex _ _ f1), _, hcs, ?_⟩
  -- the rest, from a number of signs on
  have fin : ∀ (m : Nat) (x : Int) (H3 : Hp), x = (m : Int) → 1 ≤ m → m ≤ 16 → Bx b G1 H3 → -2 ^ 62 ≤ x ∧ x < 2 ^ 62 ∧ ∀ L, H3 L = none →
      CompP (Itr 0 x.toNat) (gName 3) tYes (tOp rIxS (tVar 1) (tCall sp_take [] E0 (tCons (tVar 0) (tCons (tCB (fun xs H Q => ∃ z, xs = [.str z] ∧ z.length ≤ sizeLine ∧ Q (.int z.length) H) (tCons (tVar 1) tNil)) tNil))))
        (List.map (fun x => x.snd) [(Str.ofString "_law_k", 3)]) [some (.ref b), some (.str (S cs)), some (.int x), none] L
        (fun y H2 => ∃ x, y = .ref x ∧ ∃ z : List Str, (SqL K H2 x (z.map V.str) ∨ SqT K H2 x (z.map V.str)) ∧ (z.map (fun x => x.length)).sum + z.length * (S []).length ≤ 16777216 ∧ Q (.str (Txt.join (S []) z)) H2)
        (upd H3 L (.lst [])) := by
    intro m x H3 ex h1 h16 B3
    subst ex
    refine ⟨by omega, by omega, fun L hL => ?_⟩
    rw [Int.toNat_natCast]
    refine signs_draw (fun c => wsign c = true) (by omega) B3 hL (fun _ => rfl) (fun i G' H' Q' _ _ B q => ?_) ?_
    · simp only [wipe, List.map_cons, List.map_nil, List.set_cons_succ, List.set_cons_zero, tSeq, tAsg, tAnd, tOr, tNot, tTest, tB, tOp, tUn, tCB, tCons, tNil, tVar, tC, gName, rI0, rI, rU, rEq, rNe, rIxS, rIxL, rIxT, tRet, tRetN, tTup, tLst, tSl, tPart, tNoPart, rSlS, tIf, tIfS, tNext, tDrop, tCall, tBM, tBM0, tAndV, tOrV, tNotV, tM0, tM1, gSub, rSetL, tMeth, tMake, tFld, tChain, tIsN, tNotN,
  List.set_cons_zero, List.set_cons_succ, exists_eq_left', exists_eq_left, exists_eq, V.int.injEq, V.str.injEq, V.bl.injEq, V.ref.injEq, List.cons.injEq, and_true, true_and, List.getElem?_cons_zero, List.getElem?_cons_succ, Option.some.injEq, List.append_nil, exists_and_left, cxOf_K, false_and, and_false, exists_false, false_or, or_false, exists_eq', exists_const, sg_eq, S_eq, S_toList, S_ne, tFor_eq, tLc_eq, iList_eq, iTup_eq, iRng1_eq, iStr_eq, decide_eq_true_eq, Bool.not_eq_true', decide_eq_false_iff_not, if_true, if_false, Bool.false_eq_true, reduceCtorEq, Bool.true_eq_false, decide_true, decide_false]
      refine ⟨size_le (by rw [S_len]; omega), take_ B (by rw [S_len]; omega) (by rw [S_len]; omega) fun r H4 hr B4 => ?_⟩
      rw [S_len] at hr
      simp only [tSeq, tAsg, tAnd, tOr, tNot, tTest, tB, tOp, tUn, tCB, tCons, tNil, tVar, tC, gName, rI0, rI, rU, rEq, rNe, rIxS, rIxL, rIxT, tRet, tRetN, tTup, tLst, tSl, tPart, tNoPart, rSlS, tIf, tIfS, tNext, tDrop, tCall, tBM, tBM0, tAndV, tOrV, tNotV, tM0, tM1, gSub, rSetL, tMeth, tMake, tFld, tChain, tIsN, tNotN,
  List.set_cons_zero, List.set_cons_succ, exists_eq_left', exists_eq_left, exists_eq, V.int.injEq, V.str.injEq, V.bl.injEq, V.ref.injEq, List.cons.injEq, and_true, true_and, List.getElem?_cons_zero, List.getElem?_cons_succ, Option.some.injEq, List.append_nil, exists_and_left, cxOf_K, false_and, and_false, exists_false, false_or, or_false, exists_eq', exists_const, sg_eq, S_eq, S_toList, S_ne, tFor_eq, tLc_eq, iList_eq, iTup_eq, iRng1_eq, iStr_eq, decide_eq_true_eq, Bool.not_eq_true', decide_eq_false_iff_not, if_true, if_false, Bool.false_eq_true, reduceCtorEq, Bool.true_eq_false, decide_true, decide_false]
      have h3 : r < cs.length := by omega
      exact ⟨size_le (by rw [S_len]; omega), _, atI_nat (List.getElem?_eq_getElem h3), q _ _ _ (Same.refl _) B4 (hin _ (List.getElem_mem _))⟩
    · intro t G' H' s' B' hl ht hp
      refine ⟨L, rfl, _, .inl (sq_of (B'.ex _ _ hl)), signs_size t (by omega), ?_⟩
      rw [join_signs]
      exact k t H' ⟨by omega, by omega, hp⟩ (B'.weak (e1.trans s'))
  refine take_ B2 (by decide) (by decide) fun r2 H3 hr2 B3 => ?_
  simp only [tSeq, tAsg, tAnd, tOr, tNot, tTest, tB, tOp, tUn, tCB, tCons, tNil, tVar, tC, gName, rI0, rI, rU, rEq, rNe, rIxS, rIxL, rIxT, tRet, tRetN, tTup, tLst, tSl, tPart, tNoPart, rSlS, tIf, tIfS, tNext, tDrop, tCall, tBM, tBM0, tAndV, tOrV, tNotV, tM0, tM1, gSub, rSetL, tMeth, tMake, tFld, tChain, tIsN, tNotN,
  List.set_cons_zero, List.set_cons_succ, exists_eq_left', exists_eq_left, exists_eq, V.int.injEq, V.str.injEq, V.bl.injEq, V.ref.injEq, List.cons.injEq, and_true, true_and, List.getElem?_cons_zero, List.getElem?_cons_succ, Option.some.injEq, List.append_nil, exists_and_left, cxOf_K, false_and, and_false, exists_false, false_or, or_false, exists_eq', exists_const, sg_eq, S_eq, S_toList, S_ne, tFor_eq, tLc_eq, iList_eq, iTup_eq, iRng1_eq, iStr_eq, decide_eq_true_eq, Bool.not_eq_true', decide_eq_false_iff_not, if_true, if_false, Bool.false_eq_true, reduceCtorEq, Bool.true_eq_false, decide_true, decide_false]
  refine take_ B3 (by decide) (by decide) fun r3 H4 hr3 B4 => ⟨rfl, ite2 (fun _ => ?_) (fun _ => ?_)⟩
  · refine take_ B4 (by decide) (by decide) fun r4 H5 hr4 B5 => ?_
    simp only [tSeq, tAsg, tAnd, tOr, tNot, tTest, tB, tOp, tUn, tCB, tCons, tNil, tVar, tC, gName, rI0, rI, rU, rEq, rNe, rIxS, rIxL, rIxT, tRet, tRetN, tTup, tLst, tSl, tPart, tNoPart, rSlS, tIf, tIfS, tNext, tDrop, tCall, tBM, tBM0, tAndV, tOrV, tNotV, tM0, tM1, gSub, rSetL, tMeth, tMake, tFld, tChain, tIsN, tNotN,
  List.set_cons_zero, List.set_cons_succ, exists_eq_left', exists_eq_left, exists_eq, V.int.injEq, V.str.injEq, V.bl.injEq, V.ref.injEq, List.cons.injEq, and_true, true_and, List.getElem?_cons_zero, List.getElem?_cons_succ, Option.some.injEq, List.append_nil, exists_and_left, cxOf_K, false_and, and_false, exists_false, false_or, or_false, exists_eq', exists_const, sg_eq, S_eq, S_toList, S_ne, tFor_eq, tLc_eq, iList_eq, iTup_eq, iRng1_eq, iStr_eq, decide_eq_true_eq, Bool.not_eq_true', decide_eq_false_iff_not, if_true, if_false, Bool.false_eq_true, reduceCtorEq, Bool.true_eq_false, decide_true, decide_false]
    exact fin (1 + r4) _ H5 (by omega) (by omega) (by omega) B5
  · exact fin (1 + r2) _ H4 (by omega) (by omega) (by omega) B4
theorem word_ {b : Addr} {G H : Hp} {Q : VK} {E : XK} (B : Bx b G H) (k : ∀ (t : Tx) H', wordOk t → Bx b G H' → Q (.str (S t)) H') : sp_word [.ref b] H Q E := ⟨b, G, rfl, B, k⟩
/-- an ending: a word -/
def sp_ending : Sp := sp_word
abbrev s_l_ending : Stmt := (top 10)
theorem sc_l_ending : FnScope ["_law_box", "_law_some"] ["_law_box"] (defScope s_l_ending) := ⟨rfl, rfl, rfl, by decide +kernel, rfl, by decide +kernel, by decide +kernel⟩

theorem ok_ending {f : Addr} {fd : FuncData} (F : FunS K "_law_ending" s_l_ending f fd) (b_int : mg "int" = none) (c_l_take : Cal P w K mg base CX0 1 "_law_take" sp_take) (c_l_word : Cal P w K mg base CX0 2 "_law_word" sp_word) : FnOk P w K mg base CX0 3 f fd ["_law_box"] sp_ending := by
  refine F.ok sc_l_ending (fun vs H Q E h => ?_) (fun cdv A outer s H vs Q E hr h => ?_)
  · obtain ⟨b, G, rfl, _⟩ := h
    rfl
  obtain ⟨b, G, rfl, B, k⟩ := h
  refine ⟨_, PSs.nox (pss_cons (ps_set (i := 1) sc_l_ending.nd rfl (.inl rfl) (pe_lst (pa_cons pe_str (pa_cons pe_str (pa_cons pe_str (pa_cons pe_str (pa_cons pe_str (pa_cons pe_str (pa_cons pe_str (pa_cons pe_str (pa_cons pe_str (pa_cons pe_str (pa_cons pe_str (pa_cons pe_str pa_nil))))))))))))))
  (pss_one (ps_ret (pe_ix ix_list (pe_lst (pa_cons (pe_ix ix_list (pv 1) (pe_c c_l_take hr (by first | decide | omega) (by rfl) (pa_cons (pv 0) (pa_cons pe_int pa_nil))) (fun _ _ => rfl)) (pa_cons (pe_c c_l_word hr (by first | decide | omega) (by rfl) (pa_cons (pv 0) pa_nil)) pa_nil))) (pe_callTy call_int1 (by rfl) b_int (by decide +kernel) (pa_cons (pe_cmpR op_eq (pe_c c_l_take hr (by first | decide | omega) (by rfl) (pa_cons (pv 0) (pa_cons pe_int pa_nil))) pe_int (nomark _)) pa_nil)) (fun _ _ => rfl))))), ?_⟩
  simp only [tSeq, tAsg, tAnd, tOr, tNot, tTest, tB, tOp, tUn, tCB, tCons, tNil, tVar, tC, gName, rI0, rI, rU, rEq, rNe, rIxS, rIxL, rIxT, tRet, tRetN, tTup, tLst, tSl, tPart, tNoPart, rSlS, tIf, tIfS, tNext, tDrop, tCall, tBM, tBM0, tAndV, tOrV, tNotV, tM0, tM1, gSub, rSetL, tMeth, tMake, tFld, tChain, tIsN, tNotN,
  List.set_cons_zero, List.set_cons_succ, exists_eq_left', exists_eq_left, exists_eq, V.int.injEq, V.str.injEq, V.bl.injEq, V.ref.injEq, List.cons.injEq, and_true, true_and, List.getElem?_cons_zero, List.getElem?_cons_succ, Option.some.injEq, List.append_nil, exists_and_left, cxOf_K, false_and, and_false, exists_false, false_or, or_false, exists_eq', exists_const, sg_eq, S_eq, S_toList, S_ne, tFor_eq, tLc_eq, iList_eq, iTup_eq, iRng1_eq, iStr_eq, decide_eq_true_eq, Bool.not_eq_true', decide_eq_false_iff_not, if_true, if_false, Bool.false_eq_true, reduceCtorEq, Bool.true_eq_false, decide_true, decide_false, lit_115, lit_105_110_103, lit_101_100, lit_108_121, lit_101_114, lit_101_115_116, lit_97_98_108_101, lit_121, lit_110_101_115_115, lit_45_108_105_107_101, lit_39_115, lit_105_115_104, start1_2]
  refine ⟨(size_le (by simp only [List.length_cons, List.length_nil]; decide)), ?_⟩
  (intro p np; generalize hqp : upd _ p _ = H1; obtain ⟨G1, gp, e1, B1, f1⟩ := alB_ B np hqp; clear hqp np)
  refine take_ B1 (by decide) (by decide) fun r1 H2 hr1 B2 => ?_
  simp only [tSeq, tAsg, tAnd, tOr, tNot, tTest, tB, tOp, tUn, tCB, tCons, tNil, tVar, tC, gName, rI0, rI, rU, rEq, rNe, rIxS, rIxL, rIxT, tRet, tRetN, tTup, tLst, tSl, tPart, tNoPart, rSlS, tIf, tIfS, tNext, tDrop, tCall, tBM, tBM0, tAndV, tOrV, tNotV, tM0, tM1, gSub, rSetL, tMeth, tMake, tFld, tChain, tIsN, tNotN,
  List.set_cons_zero, List.set_cons_succ, exists_eq_left', exists_eq_left, exists_eq, V.int.injEq, V.str.injEq, V.bl.injEq, V.ref.injEq, List.cons.injEq, and_true, true_and, List.getElem?_cons_zero, List.getElem?_cons_succ, Option.some.injEq, List.append_nil, exists_and_left, cxOf_K, false_and, and_false, exists_false, false_or, or_false, exists_eq', exists_const, sg_eq, S_eq, S_toList, S_ne, tFor_eq, tLc_eq, iList_eq, iTup_eq, iRng1_eq, iStr_eq, decide_eq_true_eq, Bool.not_eq_true', decide_eq_false_iff_not, if_true, if_false, Bool.false_eq_true, reduceCtorEq, Bool.true_eq_false, decide_true, decide_false]
  obtain ⟨t, ht, hok⟩ : ∃ t : Tx, atI [V.str (S [115]), V.str (S [105, 110, 103]), V.str (S [101, 100]), V.str (S [108, 121]), V.str (S [101, 114]), V.str (S [101, 115, 116]), V.str (S [97, 98, 108, 101]), V.str (S [121]), V.str (S [110, 101, 115, 115]), V.str (S [45, 108, 105, 107, 101]), V.str (S [39, 115]), V.str (S [105, 115, 104])] (r1 : Int) = some (.str (S t)) ∧ wordOk t := by
    match r1, hr1 with
    | 0, _ => exact ⟨_, rfl, by decide, by decide, by decide⟩
    | 1, _ => exact ⟨_, rfl, by decide, by decide, by decide⟩
    | 2, _ => exact ⟨_, rfl, by decide, by decide, by decide⟩
    | 3, _ => exact ⟨_, rfl, by decide, by decide, by decide⟩
    | 4, _ => exact ⟨_, rfl, by decide, by decide, by decide⟩
    | 5, _ => exact ⟨_, rfl, by decide, by decide, by decide⟩
    | 6, _ => exact ⟨_, rfl, by decide, by decide, by decide⟩
    | 7, _ => exact ⟨_, rfl, by decide, by decide, by decide⟩
    | 8, _ => exact ⟨_, rfl, by decide, by decide, by decide⟩
    | 9, _ => exact ⟨_, rfl, by decide, by decide, by decide⟩
    | 10, _ => exact ⟨_, rfl, by decide, by decide, by decide⟩
    | 11, _ => exact ⟨_, rfl, by decide, by decide, by decide⟩
    | n + 12, h => exact absurd h (by omega)
  refine ⟨_, sq_of (B2.ex _ _ f1), _, ht, ?_⟩
  refine word_ B2 fun t2 H3 hok2 B3 => ?_
  refine ⟨(size_le (by simp only [List.length_cons, List.length_nil]; decide)), ?_⟩
  (intro p2 np2; generalize hqp2 : upd _ p2 _ = H4; obtain ⟨G4, gp2, e4, B4, f4⟩ := alB_ B3 np2 hqp2; clear hqp2 np2)
  refine take_ B4 (by decide) (by decide) fun r5 H5 hr5 B5 => ⟨rfl, ?_⟩
  simp only [tSeq, tAsg, tAnd, tOr, tNot, tTest, tB, tOp, tUn, tCB, tCons, tNil, tVar, tC, gName, rI0, rI, rU, rEq, rNe, rIxS, rIxL, rIxT, tRet, tRetN, tTup, tLst, tSl, tPart, tNoPart, rSlS, tIf, tIfS, tNext, tDrop, tCall, tBM, tBM0, tAndV, tOrV, tNotV, tM0, tM1, gSub, rSetL, tMeth, tMake, tFld, tChain, tIsN, tNotN,
  List.set_cons_zero, List.set_cons_succ, exists_eq_left', exists_eq_left, exists_eq, V.int.injEq, V.str.injEq, V.bl.injEq, V.ref.injEq, List.cons.injEq, and_true, true_and, List.getElem?_cons_zero, List.getElem?_cons_succ, Option.some.injEq, List.append_nil, exists_and_left, cxOf_K, false_and, and_false, exists_false, false_or, or_false, exists_eq', exists_const, sg_eq, S_eq, S_toList, S_ne, tFor_eq, tLc_eq, iList_eq, iTup_eq, iRng1_eq, iStr_eq, decide_eq_true_eq, Bool.not_eq_true', decide_eq_false_iff_not, if_true, if_false, Bool.false_eq_true, reduceCtorEq, Bool.true_eq_false, decide_true, decide_false]
  refine ⟨_, sq_of (B5.ex _ _ f4), ?_⟩
  have kk : ∀ t, wordOk t → Q (.str (S t)) H5 := fun t h => k t H5 h (B5.weak (e1.trans e4))
  by_cases h : (r5 : Int) = 1
  · rw [if_pos h]
    exact ⟨_, rfl, kk t2 hok2⟩
  · rw [if_neg h]
    exact ⟨_, rfl, kk t hok⟩
theorem ending_ {b : Addr} {G H : Hp} {Q : VK} {E : XK} (B : Bx b G H) (k : ∀ (t : Tx) H', wordOk t → Bx b G H' → Q (.str (S t)) H') : sp_ending [.ref b] H Q E := ⟨b, G, rfl, B, k⟩
end
/-! ### endings: the program's -/
def vow (c : Nat) : Bool := [97, 101, 105, 111, 117].contains c
def small (c : Nat) : Bool := 97 ≤ c && c ≤ 122
def cons (c : Nat) : Bool := small c && !vow c
theorem small_mem (c : Nat) : c ∈ [97, 98, 99, 100, 101, 102, 103, 104, 105, 106, 107, 108, 109, 110, 111, 112, 113, 114, 115, 116, 117, 118, 119, 120, 121, 122] ↔ small c = true := by
  simp only [List.mem_cons, List.not_mem_nil, or_false, small, Bool.and_eq_true, decide_eq_true_eq]
  omega
theorem vow_mem (c : Nat) : c ∈ [97, 101, 105, 111, 117] ↔ vow c = true := by
  simp only [vow, List.contains_iff_mem]
def consT : Tx → Bool
  | [c] => cons c
  | _ => false
def sp_consonant : Sp := fun vs H Q _ => ∃ t : Tx, vs = [.str (S t)] ∧ t.length ≤ 1 ∧ Q (.bl (consT t)) H
abbrev s_is_consonant : Stmt := (top 3)
theorem sc_is_consonant : FnScope ["sign"] ["sign"] (defScope s_is_consonant) := ⟨rfl, rfl, rfl, by decide +kernel, rfl, by decide +kernel, by decide +kernel⟩

section
variable {P : Program} {w : World} {K : PySem.W.Frag} {mg : Str → Option Value} {base : Heap}
theorem ok_consonant {f : Addr} {fd : FuncData} (F : FunS K "is_consonant" s_is_consonant f fd) (g_LETTERS : ∃ u, mg "LETTERS" = some u ∧ RelV (.str (S [97, 98, 99, 100, 101, 102, 103, 104, 105, 106, 107, 108, 109, 110, 111, 112, 113, 114, 115, 116, 117, 118, 119, 120, 121, 122])) u) (g_VOWELS : ∃ u, mg "VOWELS" = some u ∧ RelV (.str (S [97, 101, 105, 111, 117])) u) : FnOk P w K mg base CX0 1 f fd ["sign"] sp_consonant := by
  refine F.ok sc_is_consonant (fun vs H Q E h => ?_) (fun cdv A outer s H vs Q E hr h => ?_)
  · obtain ⟨t, rfl, _⟩ := h
    rfl
  obtain ⟨t, rfl, ht, k⟩ := h
  refine ⟨_, PSs.nox (pss_one (ps_ret (pe_and (pe_cmpR op_ne (pv 0) pe_str (nomark _)) (pe_and (pe_cmpR op_in_sign (pv 0) (pe_gc (by rfl) g_LETTERS) rfl) (pe_one (pe_cmpR op_notIn_sign (pv 0) (pe_gc (by rfl) g_VOWELS) rfl)))))), ?_⟩
  simp only [tSeq, tAsg, tAnd, tOr, tNot, tTest, tB, tOp, tUn, tCB, tCons, tNil, tVar, tC, gName, rI0, rI, rU, rEq, rNe, rIxS, rIxL, rIxT, tRet, tRetN, tTup, tLst, tSl, tPart, tNoPart, rSlS, tIf, tIfS, tNext, tDrop, tCall, tBM, tBM0, tAndV, tOrV, tNotV, tM0, tM1, gSub, rSetL, tMeth, tMake, tFld, tChain, tIsN, tNotN,
  List.set_cons_zero, List.set_cons_succ, exists_eq_left', exists_eq_left, exists_eq, V.int.injEq, V.str.injEq, V.bl.injEq, V.ref.injEq, List.cons.injEq, and_true, true_and, List.getElem?_cons_zero, List.getElem?_cons_succ, Option.some.injEq, List.append_nil, exists_and_left, cxOf_K, false_and, and_false, exists_false, false_or, or_false, exists_eq', exists_const, sg_eq, S_eq, S_toList, S_ne, tFor_eq, tLc_eq, iList_eq, iTup_eq, iRng1_eq, iStr_eq, decide_eq_true_eq, Bool.not_eq_true', decide_eq_false_iff_not, if_true, if_false, Bool.false_eq_true, reduceCtorEq, Bool.true_eq_false, decide_true, decide_false, lit_, start1_1]
  refine ⟨rfl, ?_⟩
  match t, ht with
  | [], _ =>
    simp only [not_true_eq_false, if_false]
    exact k
  | [c], _ =>
    simp only [tSeq, tAsg, tAnd, tOr, tNot, tTest, tB, tOp, tUn, tCB, tCons, tNil, tVar, tC, gName, rI0, rI, rU, rEq, rNe, rIxS, rIxL, rIxT, tRet, tRetN, tTup, tLst, tSl, tPart, tNoPart, rSlS, tIf, tIfS, tNext, tDrop, tCall, tBM, tBM0, tAndV, tOrV, tNotV, tM0, tM1, gSub, rSetL, tMeth, tMake, tFld, tChain, tIsN, tNotN,
  List.set_cons_zero, List.set_cons_succ, exists_eq_left', exists_eq_left, exists_eq, V.int.injEq, V.str.injEq, V.bl.injEq, V.ref.injEq, List.cons.injEq, and_true, true_and, List.getElem?_cons_zero, List.getElem?_cons_succ, Option.some.injEq, List.append_nil, exists_and_left, cxOf_K, false_and, and_false, exists_false, false_or, or_false, exists_eq', exists_const, sg_eq, S_eq, S_toList, S_ne, tFor_eq, tLc_eq, iList_eq, iTup_eq, iRng1_eq, iStr_eq, decide_eq_true_eq, Bool.not_eq_true', decide_eq_false_iff_not, if_true, if_false, Bool.false_eq_true, reduceCtorEq, Bool.true_eq_false, decide_true, decide_false, not_false_eq_true, small_mem, vow_mem]
    by_cases h : small c = true
    · rw [if_pos h]
      have e : consT [c] = !decide (vow c = true) := by
        simp only [consT, cons, h, Bool.true_and]
        cases vow c <;> rfl
      rw [← e]
      exact k
    · rw [if_neg h]
      have e : consT [c] = false := by
        simp only [consT, cons, Bool.not_eq_true] at h ⊢
        rw [h]
        rfl
      rw [← e]
      exact k
/-- on the text from its end -/
def shortR : Tx → Bool
  | c :: b :: a :: r => !([119, 120, 121].contains c) && cons c && vow b && cons a && !(r.any vow)
  | _ => false
theorem revs (l : Tx) : l = [] ∨ (∃ c, l = [c]) ∨ (∃ c b, l = [b, c]) ∨ ∃ r a b c, l = r ++ [a, b, c] := by
  have h : ∀ m : Tx, m.reverse = [] ∨ (∃ c, m.reverse = [c]) ∨ (∃ c b, m.reverse = [b, c]) ∨ ∃ r a b c, m.reverse = r ++ [a, b, c] := by
    intro m
    match m with
    | [] => exact .inl rfl
    | [c] => exact .inr (.inl ⟨c, rfl⟩)
    | [c, b] => exact .inr (.inr (.inl ⟨c, b, rfl⟩))
    | c :: b :: a :: r => exact .inr (.inr (.inr ⟨r.reverse, a, b, c, by simp⟩))
  have q := h l.reverse
  rw [List.reverse_reverse] at q
  exact q
def sp_short : Sp := fun vs H Q _ => ∃ t : Tx, vs = [.str (S t)] ∧ t.length ≤ 100000 ∧ asc t ∧ ∀ H', Same H H' → Q (.bl (shortR t.reverse)) H'
abbrev s_is_short : Stmt := (top 4)
theorem sc_is_short : FnScope ["word", "sign"] ["word"] (defScope s_is_short) := ⟨rfl, rfl, rfl, by decide +kernel, rfl, by decide +kernel, by decide +kernel⟩

theorem ok_short {f : Addr} {fd : FuncData} (F : FunS K "is_short" s_is_short f fd) (b_len : mg "len" = none) (g_VOWELS : ∃ u, mg "VOWELS" = some u ∧ RelV (.str (S [97, 101, 105, 111, 117])) u) (c_is_consonant : Cal P w K mg base CX0 1 "is_consonant" sp_consonant) : FnOk P w K mg base CX0 2 f fd ["word"] sp_short := by
  refine F.ok sc_is_short (fun vs H Q E h => ?_) (fun cdv A outer s H vs Q E hr h => ?_)
  · obtain ⟨t, rfl, _⟩ := h
    rfl
  obtain ⟨t, rfl, ht, as, k⟩ := h
  refine ⟨_, PSs.nox (pss_cons (ps_if (PW.pt (pw_or (pt_cmpR op_lt (pe_callB call_len_str (by rfl) b_len PySem.boot_len (pa_cons (pv 0) pa_nil)) pe_int (nomark _)) (pw_or (pt_cmpR op_in_sign (pe_ix ix_str (pv 0) (pe_un un_neg pe_int) (fun _ _ => rfl)) pe_str rfl) (pw_or1 (pt_not (pt_val (pe_c c_is_consonant hr (by first | decide | omega) (by rfl) (pa_cons (pe_ix ix_str (pv 0) (pe_un un_neg pe_int) (fun _ _ => rfl)) pa_nil))))))))
    (pss_one (ps_ret pe_bl))
    pss_nil)
  (pss_cons (ps_if (PW.pt (pw_or (pt_cmpR op_notIn_sign (pe_ix ix_str (pv 0) (pe_un un_neg pe_int) (fun _ _ => rfl)) (pe_gc (by rfl) g_VOWELS) rfl) (pw_or1 (pt_not (pt_val (pe_c c_is_consonant hr (by first | decide | omega) (by rfl) (pa_cons (pe_ix ix_str (pv 0) (pe_un un_neg pe_int) (fun _ _ => rfl)) pa_nil)))))))
    (pss_one (ps_ret pe_bl))
    pss_nil)
  (pss_one (ps_ret (pe_cmpR (op_eqD hr.units) (pe_lc (own := [("sign", 1)]) rfl sc_is_short.nd (pi_str (pe_slice sl_str (pv 0) po_none (po_some (pe_un un_neg pe_int)))) (blkOk_by (N := ["word", "sign"]) (sc := defScope s_is_short) (own := [("sign", 1)]) (by decide +kernel)) (fun _ _ _ _ _ => (pg_name (i := 1) sc_is_short.nd rfl (.inl rfl))) (fun _ _ _ _ _ => (pts_one (pt_cmpR op_in_sign (pv 1) (pe_gc (by rfl) g_VOWELS) rfl))) (fun _ _ _ _ _ => (pv 1))) (pe_lst pa_nil) (nomark _)))))), ?_⟩
  simp only [tSeq, tAsg, tAnd, tOr, tNot, tTest, tB, tOp, tUn, tCB, tCons, tNil, tVar, tC, gName, rI0, rI, rU, rEq, rNe, rIxS, rIxL, rIxT, tRet, tRetN, tTup, tLst, tSl, tPart, tNoPart, rSlS, tIf, tNext, tDrop, tCall, tBM, tBM0, tAndV, tOrV, tNotV, tM0, tM1, gSub, rSetL, tMeth, tMake, tFld, tChain, tIsN, tNotN,
  List.set_cons_zero, List.set_cons_succ, exists_eq_left', exists_eq_left, exists_eq, V.int.injEq, V.str.injEq, V.bl.injEq, V.ref.injEq, List.cons.injEq, and_true, true_and, List.getElem?_cons_zero, List.getElem?_cons_succ, Option.some.injEq, List.append_nil, exists_and_left, cxOf_K, false_and, and_false, exists_false, false_or, or_false, exists_eq', exists_const, sg_eq, S_eq, S_toList, S_ne, tFor_eq, tLc_eq, iList_eq, iTup_eq, iRng1_eq, iStr_eq, decide_eq_true_eq, Bool.not_eq_true', decide_eq_false_iff_not, if_true, if_false, Bool.false_eq_true, reduceCtorEq, Bool.true_eq_false, decide_true, decide_false, lit_119_120_121, start1_2]
  have sz := size_le (Nat.le_trans ht (by decide))
  rcases revs t with rfl | ⟨c, rfl⟩ | ⟨c, b, rfl⟩ | ⟨r, a, b, c, rfl⟩
  · refine if_pure true (fun R r => ?_) (fun _ => ?_) (fun z => nomatch z)
    · simp only [tSeq, tAsg, tAnd, tOr, tNot, tTest, tB, tOp, tUn, tCB, tCons, tNil, tVar, tC, gName, rI0, rI, rU, rEq, rNe, rIxS, rIxL, rIxT, tRet, tRetN, tTup, tLst, tSl, tPart, tNoPart, rSlS, tIf, tIfS, tNext, tDrop, tCall, tBM, tBM0, tAndV, tOrV, tNotV, tM0, tM1, gSub, rSetL, tMeth, tMake, tFld, tChain, tIsN, tNotN,
  List.set_cons_zero, List.set_cons_succ, exists_eq_left', exists_eq_left, exists_eq, V.int.injEq, V.str.injEq, V.bl.injEq, V.ref.injEq, List.cons.injEq, and_true, true_and, List.getElem?_cons_zero, List.getElem?_cons_succ, Option.some.injEq, List.append_nil, exists_and_left, cxOf_K, false_and, and_false, exists_false, false_or, or_false, exists_eq', exists_const, sg_eq, S_eq, S_toList, S_ne, tFor_eq, tLc_eq, iList_eq, iTup_eq, iRng1_eq, iStr_eq, decide_eq_true_eq, Bool.not_eq_true', decide_eq_false_iff_not, if_true, if_false, Bool.false_eq_true, reduceCtorEq, Bool.true_eq_false, decide_true, decide_false, S_len]
      exact ⟨by decide, r⟩
    · exact k _ (Same.refl _)
  · refine if_pure true (fun R r => ?_) (fun _ => ?_) (fun z => nomatch z)
    · simp only [tSeq, tAsg, tAnd, tOr, tNot, tTest, tB, tOp, tUn, tCB, tCons, tNil, tVar, tC, gName, rI0, rI, rU, rEq, rNe, rIxS, rIxL, rIxT, tRet, tRetN, tTup, tLst, tSl, tPart, tNoPart, rSlS, tIf, tIfS, tNext, tDrop, tCall, tBM, tBM0, tAndV, tOrV, tNotV, tM0, tM1, gSub, rSetL, tMeth, tMake, tFld, tChain, tIsN, tNotN,
  List.set_cons_zero, List.set_cons_succ, exists_eq_left', exists_eq_left, exists_eq, V.int.injEq, V.str.injEq, V.bl.injEq, V.ref.injEq, List.cons.injEq, and_true, true_and, List.getElem?_cons_zero, List.getElem?_cons_succ, Option.some.injEq, List.append_nil, exists_and_left, cxOf_K, false_and, and_false, exists_false, false_or, or_false, exists_eq', exists_const, sg_eq, S_eq, S_toList, S_ne, tFor_eq, tLc_eq, iList_eq, iTup_eq, iRng1_eq, iStr_eq, decide_eq_true_eq, Bool.not_eq_true', decide_eq_false_iff_not, if_true, if_false, Bool.false_eq_true, reduceCtorEq, Bool.true_eq_false, decide_true, decide_false, S_len]
      exact ⟨sz, r⟩
    · exact k _ (Same.refl _)
  · refine if_pure true (fun R r => ?_) (fun _ => ?_) (fun z => nomatch z)
    · simp only [tSeq, tAsg, tAnd, tOr, tNot, tTest, tB, tOp, tUn, tCB, tCons, tNil, tVar, tC, gName, rI0, rI, rU, rEq, rNe, rIxS, rIxL, rIxT, tRet, tRetN, tTup, tLst, tSl, tPart, tNoPart, rSlS, tIf, tIfS, tNext, tDrop, tCall, tBM, tBM0, tAndV, tOrV, tNotV, tM0, tM1, gSub, rSetL, tMeth, tMake, tFld, tChain, tIsN, tNotN,
  List.set_cons_zero, List.set_cons_succ, exists_eq_left', exists_eq_left, exists_eq, V.int.injEq, V.str.injEq, V.bl.injEq, V.ref.injEq, List.cons.injEq, and_true, true_and, List.getElem?_cons_zero, List.getElem?_cons_succ, Option.some.injEq, List.append_nil, exists_and_left, cxOf_K, false_and, and_false, exists_false, false_or, or_false, exists_eq', exists_const, sg_eq, S_eq, S_toList, S_ne, tFor_eq, tLc_eq, iList_eq, iTup_eq, iRng1_eq, iStr_eq, decide_eq_true_eq, Bool.not_eq_true', decide_eq_false_iff_not, if_true, if_false, Bool.false_eq_true, reduceCtorEq, Bool.true_eq_false, decide_true, decide_false, S_len]
      exact ⟨sz, r⟩
    · exact k _ (Same.refl _)
  · have l1 : atI (r ++ [a, b, c]) (-1) = some c := by
      have e := atI_neg (r ++ [a, b, c]) 1 (by decide) (by simp)
      simpa using e
    have l2 : atI (r ++ [a, b, c]) (-2) = some b := by
      have e := atI_neg (r ++ [a, b, c]) 2 (by decide) (by simp)
      simpa using e
    have l3 : atI (r ++ [a, b, c]) (-3) = some a := by
      have e := atI_neg (r ++ [a, b, c]) 3 (by decide) (by simp)
      simpa using e
    have hl : ¬ (((r ++ [a, b, c]).length : Int) < 3) := by simp; omega
    refine if_pure ([119, 120, 121].contains c || !cons c) (fun R q => ?_) (fun e => ?_) (fun e => ?_)
    · simp only [tSeq, tAsg, tAnd, tOr, tNot, tTest, tB, tOp, tUn, tCB, tCons, tNil, tVar, tC, gName, rI0, rI, rU, rEq, rNe, rIxS, rIxL, rIxT, tRet, tRetN, tTup, tLst, tSl, tPart, tNoPart, rSlS, tIf, tIfS, tNext, tDrop, tCall, tBM, tBM0, tAndV, tOrV, tNotV, tM0, tM1, gSub, rSetL, tMeth, tMake, tFld, tChain, tIsN, tNotN,
  List.set_cons_zero, List.set_cons_succ, exists_eq_left', exists_eq_left, exists_eq, V.int.injEq, V.str.injEq, V.bl.injEq, V.ref.injEq, List.cons.injEq, and_true, true_and, List.getElem?_cons_zero, List.getElem?_cons_succ, Option.some.injEq, List.append_nil, exists_and_left, cxOf_K, false_and, and_false, exists_false, false_or, or_false, exists_eq', exists_const, sg_eq, S_eq, S_toList, S_ne, tFor_eq, tLc_eq, iList_eq, iTup_eq, iRng1_eq, iStr_eq, decide_eq_true_eq, Bool.not_eq_true', decide_eq_false_iff_not, if_true, if_false, Bool.false_eq_true, reduceCtorEq, Bool.true_eq_false, decide_true, decide_false, S_len, hl, l1]
      refine ⟨sz, sz, ite2 (fun h => ?_) (fun h => ⟨sz, [c], rfl, by simp, _, rfl, ?_⟩)⟩
      · rw [List.contains_iff_mem.mpr h] at q
        exact q
      · rw [show [119, 120, 121].contains c = false from Bool.eq_false_iff.mpr fun z => h (List.contains_iff_mem.mp z)] at q
        exact q
    · simp only [tSeq, tAsg, tAnd, tOr, tNot, tTest, tB, tOp, tUn, tCB, tCons, tNil, tVar, tC, gName, rI0, rI, rU, rEq, rNe, rIxS, rIxL, rIxT, tRet, tRetN, tTup, tLst, tSl, tPart, tNoPart, rSlS, tIf, tIfS, tNext, tDrop, tCall, tBM, tBM0, tAndV, tOrV, tNotV, tM0, tM1, gSub, rSetL, tMeth, tMake, tFld, tChain, tIsN, tNotN,
  List.set_cons_zero, List.set_cons_succ, exists_eq_left', exists_eq_left, exists_eq, V.int.injEq, V.str.injEq, V.bl.injEq, V.ref.injEq, List.cons.injEq, and_true, true_and, List.getElem?_cons_zero, List.getElem?_cons_succ, Option.some.injEq, List.append_nil, exists_and_left, cxOf_K, false_and, and_false, exists_false, false_or, or_false, exists_eq', exists_const, sg_eq, S_eq, S_toList, S_ne, tFor_eq, tLc_eq, iList_eq, iTup_eq, iRng1_eq, iStr_eq, decide_eq_true_eq, Bool.not_eq_true', decide_eq_false_iff_not, if_true, if_false, Bool.false_eq_true, reduceCtorEq, Bool.true_eq_false, decide_true, decide_false]
      have e2 : shortR (r ++ [a, b, c]).reverse = false := by
        simp only [List.reverse_append, List.reverse_cons, List.reverse_nil, List.nil_append, List.cons_append, shortR]
        cases h1 : [119, 120, 121].contains c <;> cases h2 : cons c <;> simp_all
      have q := k H (Same.refl _)
      rw [e2] at q
      exact q
    · rw [Bool.or_eq_false_iff, Bool.not_eq_false'] at e
      simp only [tSeq, tAsg, tAnd, tOr, tNot, tTest, tB, tOp, tUn, tCB, tCons, tNil, tVar, tC, gName, rI0, rI, rU, rEq, rNe, rIxS, rIxL, rIxT, tRet, tRetN, tTup, tLst, tSl, tPart, tNoPart, rSlS, tIf, tNext, tDrop, tCall, tBM, tBM0, tAndV, tOrV, tNotV, tM0, tM1, gSub, rSetL, tMeth, tMake, tFld, tChain, tIsN, tNotN,
  List.set_cons_zero, List.set_cons_succ, exists_eq_left', exists_eq_left, exists_eq, V.int.injEq, V.str.injEq, V.bl.injEq, V.ref.injEq, List.cons.injEq, and_true, true_and, List.getElem?_cons_zero, List.getElem?_cons_succ, Option.some.injEq, List.append_nil, exists_and_left, cxOf_K, false_and, and_false, exists_false, false_or, or_false, exists_eq', exists_const, sg_eq, S_eq, S_toList, S_ne, tFor_eq, tLc_eq, iList_eq, iTup_eq, iRng1_eq, iStr_eq, decide_eq_true_eq, Bool.not_eq_true', decide_eq_false_iff_not, if_true, if_false, Bool.false_eq_true, reduceCtorEq, Bool.true_eq_false, decide_true, decide_false]
      refine if_pure (!vow b || !cons a) (fun R q => ?_) (fun e3 => ?_) (fun e3 => ?_)
      · simp only [tSeq, tAsg, tAnd, tOr, tNot, tTest, tB, tOp, tUn, tCB, tCons, tNil, tVar, tC, gName, rI0, rI, rU, rEq, rNe, rIxS, rIxL, rIxT, tRet, tRetN, tTup, tLst, tSl, tPart, tNoPart, rSlS, tIf, tIfS, tNext, tDrop, tCall, tBM, tBM0, tAndV, tOrV, tNotV, tM0, tM1, gSub, rSetL, tMeth, tMake, tFld, tChain, tIsN, tNotN,
  List.set_cons_zero, List.set_cons_succ, exists_eq_left', exists_eq_left, exists_eq, V.int.injEq, V.str.injEq, V.bl.injEq, V.ref.injEq, List.cons.injEq, and_true, true_and, List.getElem?_cons_zero, List.getElem?_cons_succ, Option.some.injEq, List.append_nil, exists_and_left, cxOf_K, false_and, and_false, exists_false, false_or, or_false, exists_eq', exists_const, sg_eq, S_eq, S_toList, S_ne, tFor_eq, tLc_eq, iList_eq, iTup_eq, iRng1_eq, iStr_eq, decide_eq_true_eq, Bool.not_eq_true', decide_eq_false_iff_not, if_true, if_false, Bool.false_eq_true, reduceCtorEq, Bool.true_eq_false, decide_true, decide_false, S_len, l2, l3, vow_mem]
        refine ⟨sz, ?_⟩
        cases hb : vow b with
        | false =>
          rw [hb] at q
          simp only [Bool.false_eq_true, not_false_eq_true, if_true]
          exact q
        | true =>
          rw [hb] at q
          simp only [not_true_eq_false, if_false]
          exact ⟨sz, [a], rfl, by simp, _, rfl, q⟩
      · have e2 : shortR (r ++ [a, b, c]).reverse = false := by
          simp only [List.reverse_append, List.reverse_cons, List.reverse_nil, List.nil_append, List.cons_append, shortR]
          cases h1 : vow b <;> cases h2 : cons a <;> simp_all
        have q := k H (Same.refl _)
        rw [e2] at q
        exact q
      · rw [Bool.or_eq_false_iff, Bool.not_eq_false', Bool.not_eq_false'] at e3
        simp only [tSeq, tAsg, tAnd, tOr, tNot, tTest, tB, tOp, tUn, tCB, tCons, tNil, tVar, tC, gName, rI0, rI, rU, rEq, rNe, rIxS, rIxL, rIxT, tRet, tRetN, tTup, tLst, tSl, tPart, tNoPart, rSlS, tIf, tIfS, tNext, tDrop, tCall, tBM, tBM0, tAndV, tOrV, tNotV, tM0, tM1, gSub, rSetL, tMeth, tMake, tFld, tChain, tIsN, tNotN,
  List.set_cons_zero, List.set_cons_succ, exists_eq_left', exists_eq_left, exists_eq, V.int.injEq, V.str.injEq, V.bl.injEq, V.ref.injEq, List.cons.injEq, and_true, true_and, List.getElem?_cons_zero, List.getElem?_cons_succ, Option.some.injEq, List.append_nil, exists_and_left, cxOf_K, false_and, and_false, exists_false, false_or, or_false, exists_eq', exists_const, sg_eq, S_eq, S_toList, S_ne, tFor_eq, tLc_eq, iList_eq, iTup_eq, iRng1_eq, iStr_eq, decide_eq_true_eq, Bool.not_eq_true', decide_eq_false_iff_not, if_true, if_false, Bool.false_eq_true, reduceCtorEq, Bool.true_eq_false, decide_true, decide_false]
        refine ⟨sz, fun L hL => ?_⟩
        have ct : cutS (S (r ++ [a, b, c])) none (some (-2)) = S (r ++ [a]) := by
          rw [cutS_S]
          have e4 := cutL_toneg (r ++ [a, b, c]) 2 (by decide)
          have e5 : (r ++ [a, b, c]).take ((r ++ [a, b, c]).length - 2) = r ++ [a] := by
            have e6 : r ++ [a, b, c] = (r ++ [a]) ++ [b, c] := by simp
            rw [e6]
            have e7 : (r ++ [a] ++ [b, c]).length - 2 = (r ++ [a]).length := by simp
            rw [e7, List.take_left']
            rfl
          rw [e5] at e4
          exact congrArg S e4
        rw [ct]
        have lr : (r ++ [a]).length ≤ 100000 := by
          simp only [List.length_append, List.length_cons, List.length_nil] at ht ⊢
          omega
        have asr : asc (r ++ [a]) := fun x hx => as x (by
          rcases List.mem_append.mp hx with h | h
          · exact List.mem_append_left _ h
          · exact List.mem_append_right _ (by rw [List.mem_singleton.mp h]; exact List.mem_cons_self))
        refine comp_str (r ++ [a]) (fun rest acc H1 => ∃ done, r ++ [a] = done ++ rest ∧ acc = (done.filter vow).map (fun x => V.str (S [x])) ∧ Same H H1) (by omega) ⟨[], rfl, rfl, same_new hL⟩ upd_same ?_ ?_
        · rintro i x rest acc H1 hA hn hi ⟨done, e4, rfl, s1⟩
          simp only [wipe, List.map_cons, List.map_nil, List.set_cons_succ, List.set_cons_zero, tSeq, tAsg, tAnd, tOr, tNot, tTest, tB, tOp, tUn, tCB, tCons, tNil, tVar, tC, gName, rI0, rI, rU, rEq, rNe, rIxS, rIxL, rIxT, tRet, tRetN, tTup, tLst, tSl, tPart, tNoPart, rSlS, tIf, tIfS, tNext, tDrop, tCall, tBM, tBM0, tAndV, tOrV, tNotV, tM0, tM1, gSub, rSetL, tMeth, tMake, tFld, tChain, tIsN, tNotN,
  List.set_cons_zero, List.set_cons_succ, exists_eq_left', exists_eq_left, exists_eq, V.int.injEq, V.str.injEq, V.bl.injEq, V.ref.injEq, List.cons.injEq, and_true, true_and, List.getElem?_cons_zero, List.getElem?_cons_succ, Option.some.injEq, List.append_nil, exists_and_left, cxOf_K, false_and, and_false, exists_false, false_or, or_false, exists_eq', exists_const, sg_eq, S_eq, S_toList, S_ne, tFor_eq, tLc_eq, iList_eq, iTup_eq, iRng1_eq, iStr_eq, decide_eq_true_eq, Bool.not_eq_true', decide_eq_false_iff_not, if_true, if_false, Bool.false_eq_true, reduceCtorEq, Bool.true_eq_false, decide_true, decide_false, vow_mem]
          refine ite2 (fun hv => ?_) (fun hv => ?_)
          · refine cput hA hn hi ⟨done ++ [x], by rw [e4]; simp, by rw [List.filter_append]; simp [hv], same_mut s1 hL⟩
          · refine cskip hA hn ⟨done ++ [x], by rw [e4]; simp, by rw [List.filter_append]; simp [hv], s1⟩
        · rintro acc H1 hA hn ⟨done, e4, rfl, s1⟩
          rw [List.append_nil] at e4
          subst e4
          refine ⟨(size_le (by simp only [List.length_cons, List.length_nil]; decide)), ?_⟩
          intro p np
          have dl : Dp K (upd H1 p (.lst [])) (.ref L) (.list (((r ++ [a]).filter vow).map fun x => PyData.str (S [x]))) := by
            have h1 : (upd H1 p (.lst [])) L = some (.lst (((r ++ [a]).filter vow).map fun x => V.str (S [x]))) := by
              rw [upd_ne (ne_of_none hA np)]
              exact hA
            have e5 := dp_strs (K := K) (H := upd H1 p (.lst [])) (((r ++ [a]).filter vow).map fun x => S [x])
            rw [List.map_map, List.map_map] at e5
            exact .lst (sq_of h1) e5
          have okl : okD 2 (.list (((r ++ [a]).filter vow).map fun x => PyData.str (S [x]))) := by
            refine ⟨by rw [List.length_map]; exact Nat.le_trans (List.length_filter_le _ _) lr, fun d hd => ?_⟩
            obtain ⟨x, hx, rfl⟩ := List.mem_map.mp hd
            exact asc_ok fun y hy => by
              rw [List.mem_singleton.mp hy]
              exact asr x (List.mem_filter.mp hx).1
          refine ⟨_, .list [], dl, .lst (sq_of upd_same) .nil, okl.shaped (by decide), rfl, ?_⟩
          rw [eqv_nil]
          have q := k (upd H1 p (.lst [])) (s1.trans (same_new np))
          have e8 : shortR (r ++ [a, b, c]).reverse = (((r ++ [a]).filter vow).map fun x => PyData.str (S [x])).isEmpty := by
            have va : vow a = false := by
              have h := e3.2
              simp only [cons, Bool.and_eq_true, Bool.not_eq_true'] at h
              exact h.2
            have ea : (r ++ [a]).filter vow = r.filter vow := by
              rw [List.filter_append]
              simp [va]
            rw [ea]
            simp only [List.reverse_append, List.reverse_cons, List.reverse_nil, List.nil_append, List.cons_append, shortR, e.1, e.2, e3.1, e3.2, Bool.not_false, Bool.true_and, List.any_reverse]
            rw [Bool.eq_iff_iff, List.isEmpty_iff, List.map_eq_nil_iff, List.filter_eq_nil_iff, Bool.not_eq_true', List.any_eq_false]
          rw [e8] at q
          exact q
end
/-! ### a word with an ending -/
abbrev lo (t : Tx) : Tx := t.map PyProof.Rows.lo1
def letr (c : Nat) : Bool := small (PyProof.Rows.lo1 c)
theorem letr_lt {c : Nat} (h : letr c = true) : c < 128 := by
  simp only [letr, small, Bool.and_eq_true, decide_eq_true_eq] at h
  have : c ≤ PyProof.Rows.lo1 c := by
    simp only [PyProof.Rows.lo1]
    split <;> omega
  omega
theorem lo1_lt {c : Nat} (h : c < 128) : PyProof.Rows.lo1 c < 128 := by
  simp only [PyProof.Rows.lo1]
  split <;> omega
theorem all_asc {t : Tx} (h : asc t) : t.all (· < 128) = true := List.all_eq_true.mpr fun c hc => decide_eq_true (h c hc)
theorem asc_lo {t : Tx} (h : asc t) : asc (lo t) := fun c hc => by
  obtain ⟨x, hx, rfl⟩ := List.mem_map.mp hc
  exact lo1_lt (h x hx)
theorem lower_lo {t : Tx} (h : asc t) : Txt.lower (S t) = S (lo t) := SX.lower_S (all_asc h)
/-- the last sign, or none -/
def ahd (u : Tx) : Tx := u.drop (u.length - 1)
theorem ahd_len (u : Tx) : (ahd u).length ≤ 1 := by
  rw [ahd, List.length_drop]
  omega
theorem ahd_cases (u : Tx) : (u = [] ∧ ahd u = []) ∨ ∃ v x, u = v ++ [x] ∧ ahd u = [x] := by
  rcases List.eq_nil_or_concat u with rfl | ⟨v, x, rfl⟩
  · exact .inl ⟨rfl, rfl⟩
  · refine .inr ⟨v, x, List.concat_eq_append, ?_⟩
    rw [List.concat_eq_append, ahd, List.length_append, List.length_singleton, Nat.add_sub_cancel, List.drop_left]
def cA (u : Tx) (c f : Nat) : Bool := (c == 121) && consT (ahd u) && (f != 105)
def cE (u : Tx) (c f : Nat) : Bool := (c == 101) && !([[101], [111], [121]].contains (ahd u)) && vow f
def cZ (u : Tx) (c : Nat) (e : Tx) : Bool := (e == [115]) && ([[115], [120], [122]].contains [c] || [[99, 104], [115, 104]].contains (ahd u ++ [c]))
def cD (u : Tx) (c f : Nat) : Bool := shortR (u ++ [c]).reverse && vow f
def jo (u : Tx) (d f : Nat) (r : Tx) : Tx :=
  if cA (lo u) (PyProof.Rows.lo1 d) f then (if f :: r = [115] then u ++ [105, 101, 115] else u ++ 105 :: f :: r)
  else if cE (lo u) (PyProof.Rows.lo1 d) f then u ++ f :: r
  else if cZ (lo u) (PyProof.Rows.lo1 d) (f :: r) then u ++ [d] ++ [101, 115]
  else if cD (lo u) (PyProof.Rows.lo1 d) f then u ++ [d] ++ [PyProof.Rows.lo1 d] ++ f :: r
  else u ++ [d] ++ f :: r
def jPre (u : Tx) (d f : Nat) (r : Tx) : Prop := u.length ≤ 90000 ∧ r.length ≤ 90000 ∧ (∀ c ∈ u, letr c = true) ∧ letr d = true ∧ small f = true
theorem jPre.asc {u : Tx} {d f : Nat} {r : Tx} (h : jPre u d f r) : asc (u ++ [d]) := asc_app (fun c hc => letr_lt (h.2.2.1 c hc)) fun c hc => by
  rw [List.mem_singleton.mp hc]
  exact letr_lt h.2.2.2.1
theorem cut_m1 (u : Tx) (c : Nat) : cutS (S (u ++ [c])) (some (-1)) none = S [c] := by
  rw [cutS_S, cutL_last, List.length_append, List.length_singleton, Nat.add_sub_cancel, List.drop_left]
theorem cut_init (u : Tx) (c : Nat) : cutS (S (u ++ [c])) none (some (-1)) = S u := by
  rw [cutS_S, cutL_init, List.dropLast_concat]
theorem cut_m21 (u : Tx) (c : Nat) : cutS (S (u ++ [c])) (some (-2)) (some (-1)) = S (ahd u) := by
  rw [cutS_S]
  have e := cutL_negs (u ++ [c]) 2 1 (by decide) (by decide)
  rw [List.length_append, List.length_singleton, Nat.add_sub_cancel, List.take_left] at e
  exact congrArg S e
theorem cut_m2 (u : Tx) (c : Nat) : cutS (S (u ++ [c])) (some (-2)) none = S (ahd u ++ [c]) := by
  rw [cutS_S]
  have e := cutL_fromneg (u ++ [c]) 2 (by decide)
  rw [List.length_append, List.length_singleton, List.drop_append_of_le_length (by omega)] at e
  exact congrArg S e
theorem cut_to1 (f : Nat) (r : Tx) : cutS (S (f :: r)) none (some 1) = S [f] := by
  rw [cutS_S]
  exact congrArg S (cutL_to (f :: r) 1)
def sp_joined : Sp := fun vs H Q _ => ∃ u d f r, vs = [.str (S (u ++ [d])), .str (S (f :: r))] ∧ jPre u d f r ∧ ∀ H', Same H H' → Q (.str (S (jo u d f r))) H'
abbrev s_joined : Stmt := (top 5)
theorem sc_joined : FnScope ["word", "ending", "low", "first"] ["word", "ending"] (defScope s_joined) := ⟨rfl, rfl, rfl, by decide +kernel, rfl, by decide +kernel, by decide +kernel⟩

section
variable {P : Program} {w : World} {K : PySem.W.Frag} {mg : Str → Option Value} {base : Heap}
theorem ok_joined {f : Addr} {fd : FuncData} (F : FunS K "joined" s_joined f fd) (g_LETTERS : ∃ u, mg "LETTERS" = some u ∧ RelV (.str (S [97, 98, 99, 100, 101, 102, 103, 104, 105, 106, 107, 108, 109, 110, 111, 112, 113, 114, 115, 116, 117, 118, 119, 120, 121, 122])) u) (g_VOWELS : ∃ u, mg "VOWELS" = some u ∧ RelV (.str (S [97, 101, 105, 111, 117])) u) (c_is_consonant : Cal P w K mg base CX0 1 "is_consonant" sp_consonant) (c_is_short : Cal P w K mg base CX0 2 "is_short" sp_short) : FnOk P w K mg base CX0 3 f fd ["word", "ending"] sp_joined := by
  refine F.ok sc_joined (fun vs H Q E h => ?_) (fun cdv A outer s H vs Q E hr h => ?_)
  · obtain ⟨u, d, f, r, rfl, _⟩ := h
    rfl
  obtain ⟨u, d, f, r, rfl, jp, k⟩ := h
  refine ⟨_, PSs.nox (pss_cons (ps_set (i := 2) sc_joined.nd rfl (.inl rfl) (pe_lower (pv 0)))
  (pss_cons (ps_set (i := 3) sc_joined.nd rfl (.inl rfl) (pe_slice sl_str (pv 1) po_none (po_some pe_int)))
  (pss_cons (ps_if (PW.pt (pw_and (pt_cmpR op_eq (pe_slice sl_str (pv 2) (po_some (pe_un un_neg pe_int)) po_none) pe_str (nomark _)) (pw_and (pt_val (pe_c c_is_consonant hr (by first | decide | omega) (by rfl) (pa_cons (pe_slice sl_str (pv 2) (po_some (pe_un un_neg pe_int)) (po_some (pe_un un_neg pe_int))) pa_nil))) (pw_and (pt_cmpR op_in_sign (pv 3) (pe_gc (by rfl) g_LETTERS) rfl) (pw_and1 (pt_cmpR op_ne (pv 3) pe_str (nomark _)))))))
    (pss_cons (ps_if (pt_cmpR op_eq (pv 1) pe_str (nomark _))
    (pss_one (ps_ret (pe_op op_add_str (pe_slice sl_str (pv 0) po_none (po_some (pe_un un_neg pe_int))) pe_str)))
    pss_nil)
  (pss_one (ps_ret (pe_op op_add_str (pe_op op_add_str (pe_slice sl_str (pv 0) po_none (po_some (pe_un un_neg pe_int))) pe_str) (pv 1)))))
    pss_nil)
  (pss_cons (ps_if (PW.pt (pw_and (pt_cmpR op_eq (pe_slice sl_str (pv 2) (po_some (pe_un un_neg pe_int)) po_none) pe_str (nomark _)) (pw_and (pt_cmpR op_notIn_seq (pe_slice sl_str (pv 2) (po_some (pe_un un_neg pe_int)) (po_some (pe_un un_neg pe_int))) (pe_tup (pa_cons pe_str (pa_cons pe_str (pa_cons pe_str pa_nil)))) (by rfl)) (pw_and1 (pt_cmpR op_in_sign (pv 3) (pe_gc (by rfl) g_VOWELS) rfl)))))
    (pss_one (ps_ret (pe_op op_add_str (pe_slice sl_str (pv 0) po_none (po_some (pe_un un_neg pe_int))) (pv 1))))
    pss_nil)
  (pss_cons (ps_if (PW.pt (pw_and (pt_cmpR op_eq (pv 1) pe_str (nomark _)) (pw_and1 (PW.pt (pw_or (pt_cmpR op_in_seq (pe_slice sl_str (pv 2) (po_some (pe_un un_neg pe_int)) po_none) (pe_tup (pa_cons pe_str (pa_cons pe_str (pa_cons pe_str pa_nil)))) (by rfl)) (pw_or1 (pt_cmpR op_in_seq (pe_slice sl_str (pv 2) (po_some (pe_un un_neg pe_int)) po_none) (pe_tup (pa_cons pe_str (pa_cons pe_str pa_nil))) (by rfl))))))))
    (pss_one (ps_ret (pe_op op_add_str (pv 0) pe_str)))
    pss_nil)
  (pss_cons (ps_if (PW.pt (pw_and (pt_val (pe_c c_is_short hr (by first | decide | omega) (by rfl) (pa_cons (pv 2) pa_nil))) (pw_and1 (pt_cmpR op_in_sign (pv 3) (pe_gc (by rfl) g_VOWELS) rfl))))
    (pss_one (ps_ret (pe_op op_add_str (pe_op op_add_str (pv 0) (pe_lower (pe_ix ix_str (pv 0) (pe_un un_neg pe_int) (fun _ _ => rfl)))) (pv 1))))
    pss_nil)
  (pss_one (ps_ret (pe_op op_add_str (pv 0) (pv 1)))))))))), ?_⟩
  have ew : Txt.lower (S (u ++ [d])) = S (lo u ++ [PyProof.Rows.lo1 d]) := by
    rw [lower_lo jp.asc, lo, List.map_append]
    rfl
  have as : asc (lo u ++ [PyProof.Rows.lo1 d]) := by
    have := asc_lo jp.asc
    rw [lo, List.map_append] at this
    exact this
  have ed : Txt.lower (S [d]) = S [PyProof.Rows.lo1 d] := lower_lo fun c hc => jp.asc c (List.mem_append_right _ hc)
  have pA := jp.1
  have pB := jp.2.1
  have z1 : (S (u ++ [d])).length ≤ sizeLine := size_le (by rw [S_len]; simp; omega)
  have z2 : (S (lo u ++ [PyProof.Rows.lo1 d])).length ≤ sizeLine := size_le (by rw [S_len]; simp; omega)
  have z3 : (S (f :: r)).length ≤ sizeLine := size_le (by rw [S_len]; simp; omega)
  have z4 : (lo u ++ [PyProof.Rows.lo1 d]).length ≤ 100000 := by simp; omega
  have l1 : atI (u ++ [d]) (-1) = some d := by
    have e := atI_neg (u ++ [d]) 1 (by decide) (by simp)
    simpa using e
  simp only [tSeq, tAsg, tAnd, tOr, tNot, tTest, tB, tOp, tUn, tCB, tCons, tNil, tVar, tC, gName, rI0, rI, rU, rEq, rNe, rIxS, rIxL, rIxT, tRet, tRetN, tTup, tLst, tSl, tPart, tNoPart, rSlS, tIf, tNext, tDrop, tCall, tBM, tBM0, tAndV, tOrV, tNotV, tM0, tM1, gSub, rSetL, tMeth, tMake, tFld, tChain, tIsN, tNotN,
  List.set_cons_zero, List.set_cons_succ, exists_eq_left', exists_eq_left, exists_eq, V.int.injEq, V.str.injEq, V.bl.injEq, V.ref.injEq, List.cons.injEq, and_true, true_and, List.getElem?_cons_zero, List.getElem?_cons_succ, Option.some.injEq, List.append_nil, exists_and_left, cxOf_K, false_and, and_false, exists_false, false_or, or_false, exists_eq', exists_const, sg_eq, S_eq, S_toList, S_ne, tFor_eq, tLc_eq, iList_eq, iTup_eq, iRng1_eq, iStr_eq, decide_eq_true_eq, Bool.not_eq_true', decide_eq_false_iff_not, if_true, if_false, Bool.false_eq_true, reduceCtorEq, Bool.true_eq_false, decide_true, decide_false, lit_121, lit_105, lit_115, lit_101, lit_101_115, lit_105_101_115, lit_111, lit_120, lit_122, lit_99_104, lit_115_104, start2_4, ew, cut_to1, cut_m1, cut_init, cut_m21, cut_m2]
  unfold jo at k
  refine ⟨Nat.le_trans (by rw [S_len]; simp; omega : (S (u ++ [d])).length ≤ 100000) (by decide), z3, ?_⟩
  refine if_pure (cA (lo u) (PyProof.Rows.lo1 d) f) (fun R q => ?_) (fun e => ?_) (fun e => ?_)
  · simp only [tSeq, tAsg, tAnd, tOr, tNot, tTest, tB, tOp, tUn, tCB, tCons, tNil, tVar, tC, gName, rI0, rI, rU, rEq, rNe, rIxS, rIxL, rIxT, tRet, tRetN, tTup, tLst, tSl, tPart, tNoPart, rSlS, tIf, tIfS, tNext, tDrop, tCall, tBM, tBM0, tAndV, tOrV, tNotV, tM0, tM1, gSub, rSetL, tMeth, tMake, tFld, tChain, tIsN, tNotN,
  List.set_cons_zero, List.set_cons_succ, exists_eq_left', exists_eq_left, exists_eq, V.int.injEq, V.str.injEq, V.bl.injEq, V.ref.injEq, List.cons.injEq, and_true, true_and, List.getElem?_cons_zero, List.getElem?_cons_succ, Option.some.injEq, List.append_nil, exists_and_left, cxOf_K, false_and, and_false, exists_false, false_or, or_false, exists_eq', exists_const, sg_eq, S_eq, S_toList, S_ne, tFor_eq, tLc_eq, iList_eq, iTup_eq, iRng1_eq, iStr_eq, decide_eq_true_eq, Bool.not_eq_true', decide_eq_false_iff_not, if_true, if_false, Bool.false_eq_true, reduceCtorEq, Bool.true_eq_false, decide_true, decide_false, cut_m1, cut_m21]
    refine ⟨z2, ?_⟩
    unfold cA at q
    refine ⟨rfl, ite2 (fun h1 => ⟨z2, ahd (lo u), rfl, ahd_len _, _, rfl, ?_⟩) (fun h1 => ?_)⟩
    · rw [h1] at q
      cases hc : consT (ahd (lo u)) with
      | false =>
        rw [hc] at q
        exact q
      | true =>
        rw [hc] at q
        simp only [if_true]
        rw [if_pos ((small_mem f).mpr jp.2.2.2.2)]
        refine ⟨rfl, ?_⟩
        have e : (!decide (f = 105)) = (f != 105) := by
          rw [Bool.eq_iff_iff]
          simp
        rw [e]
        exact q
    · rw [show (PyProof.Rows.lo1 d == 121) = false from beq_eq_false_iff_ne.mpr h1] at q
      exact q
  · rw [if_pos e] at k
    simp only [tSeq, tAsg, tAnd, tOr, tNot, tTest, tB, tOp, tUn, tCB, tCons, tNil, tVar, tC, gName, rI0, rI, rU, rEq, rNe, rIxS, rIxL, rIxT, tRet, tRetN, tTup, tLst, tSl, tPart, tNoPart, rSlS, tIf, tIfS, tNext, tDrop, tCall, tBM, tBM0, tAndV, tOrV, tNotV, tM0, tM1, gSub, rSetL, tMeth, tMake, tFld, tChain, tIsN, tNotN,
  List.set_cons_zero, List.set_cons_succ, exists_eq_left', exists_eq_left, exists_eq, V.int.injEq, V.str.injEq, V.bl.injEq, V.ref.injEq, List.cons.injEq, and_true, true_and, List.getElem?_cons_zero, List.getElem?_cons_succ, Option.some.injEq, List.append_nil, exists_and_left, cxOf_K, false_and, and_false, exists_false, false_or, or_false, exists_eq', exists_const, sg_eq, S_eq, S_toList, S_ne, tFor_eq, tLc_eq, iList_eq, iTup_eq, iRng1_eq, iStr_eq, decide_eq_true_eq, Bool.not_eq_true', decide_eq_false_iff_not, if_true, if_false, Bool.false_eq_true, reduceCtorEq, Bool.true_eq_false, decide_true, decide_false, cut_init, S_cat]
    refine ⟨rfl, ite2 (fun h => ?_) (fun h => ?_)⟩
    · rw [if_pos (by rw [h.1, h.2])] at k
      refine ⟨z1, (size_le (by (try simp only [S_len, List.length_append, List.length_cons, List.length_nil]); omega)), k _ (Same.refl _)⟩
    · rw [if_neg (fun z => by cases z; exact h ⟨rfl, rfl⟩)] at k
      refine ⟨z1, (size_le (by (try simp only [S_len, List.length_append, List.length_cons, List.length_nil]); omega)), (size_le (by (try simp only [S_len, List.length_append, List.length_cons, List.length_nil]); omega)), ?_⟩
      have q := k _ (Same.refl _)
      rw [List.append_assoc]
      exact q
  rw [if_neg (by rw [e]; decide)] at k
  simp only [tSeq, tAsg, tAnd, tOr, tNot, tTest, tB, tOp, tUn, tCB, tCons, tNil, tVar, tC, gName, rI0, rI, rU, rEq, rNe, rIxS, rIxL, rIxT, tRet, tRetN, tTup, tLst, tSl, tPart, tNoPart, rSlS, tIf, tNext, tDrop, tCall, tBM, tBM0, tAndV, tOrV, tNotV, tM0, tM1, gSub, rSetL, tMeth, tMake, tFld, tChain, tIsN, tNotN,
  List.set_cons_zero, List.set_cons_succ, exists_eq_left', exists_eq_left, exists_eq, V.int.injEq, V.str.injEq, V.bl.injEq, V.ref.injEq, List.cons.injEq, and_true, true_and, List.getElem?_cons_zero, List.getElem?_cons_succ, Option.some.injEq, List.append_nil, exists_and_left, cxOf_K, false_and, and_false, exists_false, false_or, or_false, exists_eq', exists_const, sg_eq, S_eq, S_toList, S_ne, tFor_eq, tLc_eq, iList_eq, iTup_eq, iRng1_eq, iStr_eq, decide_eq_true_eq, Bool.not_eq_true', decide_eq_false_iff_not, if_true, if_false, Bool.false_eq_true, reduceCtorEq, Bool.true_eq_false, decide_true, decide_false, cut_m1, cut_m21]
  refine if_new (cE (lo u) (PyProof.Rows.lo1 d) f) (fun R q => ?_) (fun e H1 s1 => ?_) (fun e H1 s1 => ?_)
  · simp only [tSeq, tAsg, tAnd, tOr, tNot, tTest, tB, tOp, tUn, tCB, tCons, tNil, tVar, tC, gName, rI0, rI, rU, rEq, rNe, rIxS, rIxL, rIxT, tRet, tRetN, tTup, tLst, tSl, tPart, tNoPart, rSlS, tIf, tIfS, tNext, tDrop, tCall, tBM, tBM0, tAndV, tOrV, tNotV, tM0, tM1, gSub, rSetL, tMeth, tMake, tFld, tChain, tIsN, tNotN,
  List.set_cons_zero, List.set_cons_succ, exists_eq_left', exists_eq_left, exists_eq, V.int.injEq, V.str.injEq, V.bl.injEq, V.ref.injEq, List.cons.injEq, and_true, true_and, List.getElem?_cons_zero, List.getElem?_cons_succ, Option.some.injEq, List.append_nil, exists_and_left, cxOf_K, false_and, and_false, exists_false, false_or, or_false, exists_eq', exists_const, sg_eq, S_eq, S_toList, S_ne, tFor_eq, tLc_eq, iList_eq, iTup_eq, iRng1_eq, iStr_eq, decide_eq_true_eq, Bool.not_eq_true', decide_eq_false_iff_not, if_true, if_false, Bool.false_eq_true, reduceCtorEq, Bool.true_eq_false, decide_true, decide_false, cut_m1, cut_m21]
    refine ⟨z2, ?_⟩
    unfold cE at q
    refine ⟨rfl, ite2 (fun h1 => ⟨z2, (size_le (by simp only [List.length_cons, List.length_nil]; decide)), fun p np => in_tup true (ahd (lo u)) [[101], [111], [121]] np fun H' s' => ⟨_, rfl, ?_⟩⟩) (fun h1 => ?_)⟩
    · rw [h1] at q
      have q := q H' s'
      have e : decide (f ∈ [97, 101, 105, 111, 117]) = vow f := by
        rw [Bool.eq_iff_iff, decide_eq_true_eq]
        exact vow_mem f
      rw [e]
      simp only [if_true]
      cases hc : [[101], [111], [121]].contains (ahd (lo u)) with
      | false =>
        rw [hc] at q
        simp only [Bool.not_false, if_true]
        exact q
      | true =>
        rw [hc] at q
        exact q
    · rw [show (PyProof.Rows.lo1 d == 101) = false from beq_eq_false_iff_ne.mpr h1] at q
      exact q _ (Same.refl _)
  · rw [if_pos e] at k
    simp only [tSeq, tAsg, tAnd, tOr, tNot, tTest, tB, tOp, tUn, tCB, tCons, tNil, tVar, tC, gName, rI0, rI, rU, rEq, rNe, rIxS, rIxL, rIxT, tRet, tRetN, tTup, tLst, tSl, tPart, tNoPart, rSlS, tIf, tIfS, tNext, tDrop, tCall, tBM, tBM0, tAndV, tOrV, tNotV, tM0, tM1, gSub, rSetL, tMeth, tMake, tFld, tChain, tIsN, tNotN,
  List.set_cons_zero, List.set_cons_succ, exists_eq_left', exists_eq_left, exists_eq, V.int.injEq, V.str.injEq, V.bl.injEq, V.ref.injEq, List.cons.injEq, and_true, true_and, List.getElem?_cons_zero, List.getElem?_cons_succ, Option.some.injEq, List.append_nil, exists_and_left, cxOf_K, false_and, and_false, exists_false, false_or, or_false, exists_eq', exists_const, sg_eq, S_eq, S_toList, S_ne, tFor_eq, tLc_eq, iList_eq, iTup_eq, iRng1_eq, iStr_eq, decide_eq_true_eq, Bool.not_eq_true', decide_eq_false_iff_not, if_true, if_false, Bool.false_eq_true, reduceCtorEq, Bool.true_eq_false, decide_true, decide_false, cut_init, S_cat]
    refine ⟨z1, (size_le (by (try simp only [S_len, List.length_append, List.length_cons, List.length_nil]); omega)), k _ s1⟩
  rw [if_neg (by rw [e]; decide)] at k
  simp only [tSeq, tAsg, tAnd, tOr, tNot, tTest, tB, tOp, tUn, tCB, tCons, tNil, tVar, tC, gName, rI0, rI, rU, rEq, rNe, rIxS, rIxL, rIxT, tRet, tRetN, tTup, tLst, tSl, tPart, tNoPart, rSlS, tIf, tNext, tDrop, tCall, tBM, tBM0, tAndV, tOrV, tNotV, tM0, tM1, gSub, rSetL, tMeth, tMake, tFld, tChain, tIsN, tNotN,
  List.set_cons_zero, List.set_cons_succ, exists_eq_left', exists_eq_left, exists_eq, V.int.injEq, V.str.injEq, V.bl.injEq, V.ref.injEq, List.cons.injEq, and_true, true_and, List.getElem?_cons_zero, List.getElem?_cons_succ, Option.some.injEq, List.append_nil, exists_and_left, cxOf_K, false_and, and_false, exists_false, false_or, or_false, exists_eq', exists_const, sg_eq, S_eq, S_toList, S_ne, tFor_eq, tLc_eq, iList_eq, iTup_eq, iRng1_eq, iStr_eq, decide_eq_true_eq, Bool.not_eq_true', decide_eq_false_iff_not, if_true, if_false, Bool.false_eq_true, reduceCtorEq, Bool.true_eq_false, decide_true, decide_false, cut_m1, cut_m21]
  refine if_new (cZ (lo u) (PyProof.Rows.lo1 d) (f :: r)) (fun R q => ?_) (fun e H2 s2 => ?_) (fun e H2 s2 => ?_)
  · simp only [tSeq, tAsg, tAnd, tOr, tNot, tTest, tB, tOp, tUn, tCB, tCons, tNil, tVar, tC, gName, rI0, rI, rU, rEq, rNe, rIxS, rIxL, rIxT, tRet, tRetN, tTup, tLst, tSl, tPart, tNoPart, rSlS, tIf, tIfS, tNext, tDrop, tCall, tBM, tBM0, tAndV, tOrV, tNotV, tM0, tM1, gSub, rSetL, tMeth, tMake, tFld, tChain, tIsN, tNotN,
  List.set_cons_zero, List.set_cons_succ, exists_eq_left', exists_eq_left, exists_eq, V.int.injEq, V.str.injEq, V.bl.injEq, V.ref.injEq, List.cons.injEq, and_true, true_and, List.getElem?_cons_zero, List.getElem?_cons_succ, Option.some.injEq, List.append_nil, exists_and_left, cxOf_K, false_and, and_false, exists_false, false_or, or_false, exists_eq', exists_const, sg_eq, S_eq, S_toList, S_ne, tFor_eq, tLc_eq, iList_eq, iTup_eq, iRng1_eq, iStr_eq, decide_eq_true_eq, Bool.not_eq_true', decide_eq_false_iff_not, if_true, if_false, Bool.false_eq_true, reduceCtorEq, Bool.true_eq_false, decide_true, decide_false, cut_m1, cut_m2]
    unfold cZ at q
    refine ⟨rfl, ite2 (fun h1 => ⟨z2, (size_le (by simp only [List.length_cons, List.length_nil]; decide)), fun p np => in_tup false [PyProof.Rows.lo1 d] [[115], [120], [122]] np fun H' s' => ⟨_, rfl, ?_⟩⟩) (fun h1 => ?_)⟩
    · rw [show (f :: r == [115]) = true from by rw [h1.1, h1.2]; rfl] at q
      cases hc : [[115], [120], [122]].contains [PyProof.Rows.lo1 d] with
      | true =>
        rw [hc] at q
        exact q _ s'
      | false =>
        rw [hc] at q
        simp only [Bool.false_eq_true, if_false]
        exact ⟨z2, (size_le (by simp only [List.length_cons, List.length_nil]; decide)), fun p np => in_tup false (ahd (lo u) ++ [PyProof.Rows.lo1 d]) [[99, 104], [115, 104]] np fun H3 s3 => ⟨_, rfl, q _ (s'.trans s3)⟩⟩
    · rw [show (f :: r == [115]) = false from beq_eq_false_iff_ne.mpr fun z => by cases z; exact h1 ⟨rfl, rfl⟩] at q
      exact q _ (Same.refl _)
  · rw [if_pos e] at k
    simp only [tSeq, tAsg, tAnd, tOr, tNot, tTest, tB, tOp, tUn, tCB, tCons, tNil, tVar, tC, gName, rI0, rI, rU, rEq, rNe, rIxS, rIxL, rIxT, tRet, tRetN, tTup, tLst, tSl, tPart, tNoPart, rSlS, tIf, tIfS, tNext, tDrop, tCall, tBM, tBM0, tAndV, tOrV, tNotV, tM0, tM1, gSub, rSetL, tMeth, tMake, tFld, tChain, tIsN, tNotN,
  List.set_cons_zero, List.set_cons_succ, exists_eq_left', exists_eq_left, exists_eq, V.int.injEq, V.str.injEq, V.bl.injEq, V.ref.injEq, List.cons.injEq, and_true, true_and, List.getElem?_cons_zero, List.getElem?_cons_succ, Option.some.injEq, List.append_nil, exists_and_left, cxOf_K, false_and, and_false, exists_false, false_or, or_false, exists_eq', exists_const, sg_eq, S_eq, S_toList, S_ne, tFor_eq, tLc_eq, iList_eq, iTup_eq, iRng1_eq, iStr_eq, decide_eq_true_eq, Bool.not_eq_true', decide_eq_false_iff_not, if_true, if_false, Bool.false_eq_true, reduceCtorEq, Bool.true_eq_false, decide_true, decide_false, cut_init, S_cat]
    refine ⟨(size_le (by (try simp only [S_len, List.length_append, List.length_cons, List.length_nil]); omega)), k _ (s1.trans s2)⟩
  rw [if_neg (by rw [e]; decide)] at k
  simp only [tSeq, tAsg, tAnd, tOr, tNot, tTest, tB, tOp, tUn, tCB, tCons, tNil, tVar, tC, gName, rI0, rI, rU, rEq, rNe, rIxS, rIxL, rIxT, tRet, tRetN, tTup, tLst, tSl, tPart, tNoPart, rSlS, tIf, tNext, tDrop, tCall, tBM, tBM0, tAndV, tOrV, tNotV, tM0, tM1, gSub, rSetL, tMeth, tMake, tFld, tChain, tIsN, tNotN,
  List.set_cons_zero, List.set_cons_succ, exists_eq_left', exists_eq_left, exists_eq, V.int.injEq, V.str.injEq, V.bl.injEq, V.ref.injEq, List.cons.injEq, and_true, true_and, List.getElem?_cons_zero, List.getElem?_cons_succ, Option.some.injEq, List.append_nil, exists_and_left, cxOf_K, false_and, and_false, exists_false, false_or, or_false, exists_eq', exists_const, sg_eq, S_eq, S_toList, S_ne, tFor_eq, tLc_eq, iList_eq, iTup_eq, iRng1_eq, iStr_eq, decide_eq_true_eq, Bool.not_eq_true', decide_eq_false_iff_not, if_true, if_false, Bool.false_eq_true, reduceCtorEq, Bool.true_eq_false, decide_true, decide_false, cut_m1, cut_m21]
  refine if_new (cD (lo u) (PyProof.Rows.lo1 d) f) (fun R q => ?_) (fun e H3 s3 => ?_) (fun e H3 s3 => ?_)
  · simp only [tSeq, tAsg, tAnd, tOr, tNot, tTest, tB, tOp, tUn, tCB, tCons, tNil, tVar, tC, gName, rI0, rI, rU, rEq, rNe, rIxS, rIxL, rIxT, tRet, tRetN, tTup, tLst, tSl, tPart, tNoPart, rSlS, tIf, tIfS, tNext, tDrop, tCall, tBM, tBM0, tAndV, tOrV, tNotV, tM0, tM1, gSub, rSetL, tMeth, tMake, tFld, tChain, tIsN, tNotN,
  List.set_cons_zero, List.set_cons_succ, exists_eq_left', exists_eq_left, exists_eq, V.int.injEq, V.str.injEq, V.bl.injEq, V.ref.injEq, List.cons.injEq, and_true, true_and, List.getElem?_cons_zero, List.getElem?_cons_succ, Option.some.injEq, List.append_nil, exists_and_left, cxOf_K, false_and, and_false, exists_false, false_or, or_false, exists_eq', exists_const, sg_eq, S_eq, S_toList, S_ne, tFor_eq, tLc_eq, iList_eq, iTup_eq, iRng1_eq, iStr_eq, decide_eq_true_eq, Bool.not_eq_true', decide_eq_false_iff_not, if_true, if_false, Bool.false_eq_true, reduceCtorEq, Bool.true_eq_false, decide_true, decide_false, cut_m1, cut_m2]
    unfold cD at q
    refine ⟨_, rfl, z4, as, fun H' s' => ⟨_, rfl, ?_⟩⟩
    have q := q H' s'
    have e : decide (f ∈ [97, 101, 105, 111, 117]) = vow f := by
      rw [Bool.eq_iff_iff, decide_eq_true_eq]
      exact vow_mem f
    rw [e]
    cases hc : shortR (lo u ++ [PyProof.Rows.lo1 d]).reverse with
    | false =>
      rw [hc] at q
      exact q
    | true =>
      rw [hc] at q
      exact q
  · rw [if_pos e] at k
    simp only [tSeq, tAsg, tAnd, tOr, tNot, tTest, tB, tOp, tUn, tCB, tCons, tNil, tVar, tC, gName, rI0, rI, rU, rEq, rNe, rIxS, rIxL, rIxT, tRet, tRetN, tTup, tLst, tSl, tPart, tNoPart, rSlS, tIf, tIfS, tNext, tDrop, tCall, tBM, tBM0, tAndV, tOrV, tNotV, tM0, tM1, gSub, rSetL, tMeth, tMake, tFld, tChain, tIsN, tNotN,
  List.set_cons_zero, List.set_cons_succ, exists_eq_left', exists_eq_left, exists_eq, V.int.injEq, V.str.injEq, V.bl.injEq, V.ref.injEq, List.cons.injEq, and_true, true_and, List.getElem?_cons_zero, List.getElem?_cons_succ, Option.some.injEq, List.append_nil, exists_and_left, cxOf_K, false_and, and_false, exists_false, false_or, or_false, exists_eq', exists_const, sg_eq, S_eq, S_toList, S_ne, tFor_eq, tLc_eq, iList_eq, iTup_eq, iRng1_eq, iStr_eq, decide_eq_true_eq, Bool.not_eq_true', decide_eq_false_iff_not, if_true, if_false, Bool.false_eq_true, reduceCtorEq, Bool.true_eq_false, decide_true, decide_false, l1, ed, S_cat]
    exact ⟨z1, Nat.le_trans (by rw [S_len]; simp : (S [d]).length ≤ 1) (by decide), (size_le (by (try simp only [S_len, List.length_append, List.length_cons, List.length_nil]); omega)), (size_le (by (try simp only [S_len, List.length_append, List.length_cons, List.length_nil]); omega)), k _ ((s1.trans s2).trans s3)⟩
  rw [if_neg (by rw [e]; decide)] at k
  simp only [tSeq, tAsg, tAnd, tOr, tNot, tTest, tB, tOp, tUn, tCB, tCons, tNil, tVar, tC, gName, rI0, rI, rU, rEq, rNe, rIxS, rIxL, rIxT, tRet, tRetN, tTup, tLst, tSl, tPart, tNoPart, rSlS, tIf, tIfS, tNext, tDrop, tCall, tBM, tBM0, tAndV, tOrV, tNotV, tM0, tM1, gSub, rSetL, tMeth, tMake, tFld, tChain, tIsN, tNotN,
  List.set_cons_zero, List.set_cons_succ, exists_eq_left', exists_eq_left, exists_eq, V.int.injEq, V.str.injEq, V.bl.injEq, V.ref.injEq, List.cons.injEq, and_true, true_and, List.getElem?_cons_zero, List.getElem?_cons_succ, Option.some.injEq, List.append_nil, exists_and_left, cxOf_K, false_and, and_false, exists_false, false_or, or_false, exists_eq', exists_const, sg_eq, S_eq, S_toList, S_ne, tFor_eq, tLc_eq, iList_eq, iTup_eq, iRng1_eq, iStr_eq, decide_eq_true_eq, Bool.not_eq_true', decide_eq_false_iff_not, if_true, if_false, Bool.false_eq_true, reduceCtorEq, Bool.true_eq_false, decide_true, decide_false, S_cat]
  exact ⟨(size_le (by (try simp only [S_len, List.length_append, List.length_cons, List.length_nil]); omega)), k _ ((s1.trans s2).trans s3)⟩
end
/-! ### the law's joining -/
def sp_small : Sp := fun vs H Q _ => ∃ c : Nat, vs = [.str (S [c])] ∧ Q (.bl (small c)) H
abbrev s_l_small : Stmt := (top 13)
theorem sc_l_small : FnScope ["_law_sign"] ["_law_sign"] (defScope s_l_small) := ⟨rfl, rfl, rfl, by decide +kernel, rfl, by decide +kernel, by decide +kernel⟩

section
variable {P : Program} {w : World} {K : PySem.W.Frag} {mg : Str → Option Value} {base : Heap}
theorem ok_small {f : Addr} {fd : FuncData} (F : FunS K "_law_small" s_l_small f fd)  : FnOk P w K mg base CX0 1 f fd ["_law_sign"] sp_small := by
  refine F.ok sc_l_small (fun vs H Q E h => ?_) (fun cdv A outer s H vs Q E hr h => ?_)
  · obtain ⟨c, rfl, _⟩ := h
    rfl
  obtain ⟨c, rfl, k⟩ := h
  refine ⟨_, PSs.nox (pss_one (ps_ret (pe_and (pe_cmpR op_le_str pe_str (pv 0) (nomark _)) (pe_one (pe_cmpR op_le_str (pv 0) pe_str (nomark _)))))), ?_⟩
  simp only [tSeq, tAsg, tAnd, tOr, tNot, tTest, tB, tOp, tUn, tCB, tCons, tNil, tVar, tC, gName, rI0, rI, rU, rEq, rNe, rIxS, rIxL, rIxT, tRet, tRetN, tTup, tLst, tSl, tPart, tNoPart, rSlS, tIf, tIfS, tNext, tDrop, tCall, tBM, tBM0, tAndV, tOrV, tNotV, tM0, tM1, gSub, rSetL, tMeth, tMake, tFld, tChain, tIsN, tNotN,
  List.set_cons_zero, List.set_cons_succ, exists_eq_left', exists_eq_left, exists_eq, V.int.injEq, V.str.injEq, V.bl.injEq, V.ref.injEq, List.cons.injEq, and_true, true_and, List.getElem?_cons_zero, List.getElem?_cons_succ, Option.some.injEq, List.append_nil, exists_and_left, cxOf_K, false_and, and_false, exists_false, false_or, or_false, exists_eq', exists_const, sg_eq, S_eq, S_toList, S_ne, tFor_eq, tLc_eq, iList_eq, iTup_eq, iRng1_eq, iStr_eq, decide_eq_true_eq, Bool.not_eq_true', decide_eq_false_iff_not, if_true, if_false, Bool.false_eq_true, reduceCtorEq, Bool.true_eq_false, decide_true, decide_false, lit_97, lit_122, start1_1]
  have e1 : ([c] < [97]) ↔ c < 97 := by simp [List.cons_lt_cons_iff]
  have e2 : ([122] < [c]) ↔ 122 < c := by simp [List.cons_lt_cons_iff]
  simp only [e1, e2]
  refine ite2 (fun h => ?_) (fun h => ?_)
  · have e : small c = !decide (122 < c) := by
      rw [small, Bool.eq_iff_iff]
      simp
      omega
    rw [e] at k
    exact k
  · have e : small c = false := by
      rw [small, Bool.and_eq_false_iff, decide_eq_false_iff_not, decide_eq_false_iff_not]
      omega
    rw [e] at k
    exact k
theorem eqv_int1 : ∀ (a : List Int) (n : Int), PyData.eqv (.list (a.map .int)) (.list [.int n]) = decide (a = [n])
  | [], n => by simp [PyData.eqv, PyData.eqvAll]
  | [x], n => by
    simp only [List.map_cons, List.map_nil, PyData.eqv, PyData.eqvAll, Bool.and_true]
    rw [Bool.eq_iff_iff]
    simp
  | x :: y :: r, n => by simp [PyData.eqv, PyData.eqvAll]
def heard (t : Tx) (i : Nat) : List Nat := (List.range i).filter fun k => vow (t[k]?.getD 0)
theorem heard_succ (t : Tx) (i : Nat) (h : i < t.length) : heard t (i + 1) = if vow t[i] then heard t i ++ [i] else heard t i := by
  rw [heard, List.range_succ, List.filter_append]
  have e : t[i]?.getD 0 = t[i] := by simp [h]
  by_cases hv : vow t[i] = true
  · rw [if_pos hv]
    simp [heard, e, hv]
  · rw [if_neg hv]
    simp [heard, e, hv]
theorem heard_short (t : Tx) (hs : ∀ c ∈ t, small c = true) : (decide (2 < t.length) && decide (heard t t.length = [t.length - 2]) && !([[119], [120], [121]].contains (t.drop (t.length - 1)))) = shortR t.reverse := by
  rcases revs t with rfl | ⟨c, rfl⟩ | ⟨c, b, rfl⟩ | ⟨r, a, b, c, rfl⟩
  · rfl
  · rfl
  · rfl
  have hl : (r ++ [a, b, c]).length = r.length + 3 := by simp
  have hd : (r ++ [a, b, c]).drop ((r ++ [a, b, c]).length - 1) = [c] := by
    have e6 : r ++ [a, b, c] = (r ++ [a, b]) ++ [c] := by simp
    rw [e6, List.length_append, List.length_singleton, Nat.add_sub_cancel, List.drop_left]
  rw [hd, hl]
  have sa : small a = true := hs a (by simp)
  have sc : small c = true := hs c (by simp)
  have e1 : (List.filter (fun k => vow ((r ++ [a, b, c])[k]?.getD 0)) (List.range r.length)) = [] ↔ r.any vow = false := by
    rw [List.filter_eq_nil_iff, List.any_eq_false]
    constructor
    · intro h x hx
      obtain ⟨i, hi, rfl⟩ := List.mem_iff_getElem.mp hx
      have := h i (List.mem_range.mpr hi)
      simpa [List.getElem?_append_left hi, hi] using this
    · intro h i hi
      have hi := List.mem_range.mp hi
      have := h r[i] (List.getElem_mem hi)
      simpa [List.getElem?_append_left hi, hi] using this
  have e2 : heard (r ++ [a, b, c]) (r.length + 3) = List.filter (fun k => vow ((r ++ [a, b, c])[k]?.getD 0)) (List.range r.length) ++ ((if vow a then [r.length] else []) ++ ((if vow b then [r.length + 1] else []) ++ (if vow c then [r.length + 2] else []))) := by
    rw [heard, show r.length + 3 = r.length + 1 + 1 + 1 from rfl, List.range_succ, List.range_succ, List.range_succ, List.filter_append, List.filter_append, List.filter_append, List.append_assoc, List.append_assoc]
    congr 1
    have g0 : (r ++ [a, b, c])[r.length]?.getD 0 = a := by simp
    have g1 : (r ++ [a, b, c])[r.length + 1]?.getD 0 = b := by simp
    have g2 : (r ++ [a, b, c])[r.length + 1 + 1]?.getD 0 = c := by
      rw [List.getElem?_append_right (by omega), show r.length + 1 + 1 - r.length = 2 from by omega]
      rfl
    simp only [List.filter_cons, List.filter_nil, g0, g1, g2]
  have e3 : shortR (r ++ [a, b, c]).reverse = (!([119, 120, 121].contains c) && !vow c && vow b && !vow a && !(r.any vow)) := by
    simp only [List.reverse_append, List.reverse_cons, List.reverse_nil, List.nil_append, List.cons_append, shortR, List.any_reverse, cons, sa, sc, Bool.true_and]
  have e4 : [[119], [120], [121]].contains [c] = [119, 120, 121].contains c := by
    simp [List.contains_cons]
  rw [e2, e3, e4]
  generalize hX : List.filter (fun k => vow ((r ++ [a, b, c])[k]?.getD 0)) (List.range r.length) = X at e1
  have hX2 : ∀ x ∈ X, x < r.length := fun x hx => by
    rw [← hX] at hx
    exact List.mem_range.mp (List.mem_filter.mp hx).1
  generalize [119, 120, 121].contains c = q
  have h3 : decide (2 < r.length + 3) = true := decide_eq_true (by omega)
  rw [h3, show r.length + 3 - 2 = r.length + 1 from by omega]
  cases hr : r.any vow with
  | false =>
    rw [e1.mpr hr]
    cases vow a <;> cases vow b <;> cases vow c <;> cases q <;> simp
  | true =>
    have hne : X ≠ [] := fun h => by rw [e1.mp h] at hr; cases hr
    obtain ⟨x, X', rfl⟩ := List.exists_cons_of_ne_nil hne
    have hx := hX2 x List.mem_cons_self
    have hn : ∀ Y : List Nat, x :: X' ++ Y ≠ [r.length + 1] := fun Y z => by
      have := (List.cons.inj z).1
      omega
    simp [hn]
    intro z
    omega
def sp_ljoined : Sp := fun vs H Q _ => ∃ u d f r, vs = [.str (S (u ++ [d])), .str (S (f :: r))] ∧ jPre u d f r ∧ ∀ H', Same H H' → Q (.str (S (jo u d f r))) H'
abbrev s_l_joined : Stmt := (top 14)
theorem sc_l_joined : FnScope ["_law_word_here", "_law_ending_here", "_law_low", "_law_vowels", "_law_last", "_law_ahead", "_law_begins", "_law_heard", "_law_k"] ["_law_word_here", "_law_ending_here"] (defScope s_l_joined) := ⟨rfl, rfl, rfl, by decide +kernel, rfl, by decide +kernel, by decide +kernel⟩

theorem atI_at {α : Type} (u : List α) (d : α) (r : List α) : atI (u ++ d :: r) (u.length : Int) = some d := atI_nat (by simp)
theorem cut_ah (u : Tx) (c : Nat) : cutS (S (u ++ [c])) (some (((S (u ++ [c])).length : Int) - 2)) (some (u.length : Int)) = S (ahd u) := by
  rw [S_len, cutS_S]
  rcases ahd_cases u with ⟨h, h2⟩ | ⟨v, x, h, h2⟩
  · rw [h2]
    subst h
    rfl
  · rw [h2]
    subst h
    have e : ((v ++ [x] ++ [c]).length : Int) - 2 = (v.length : Int) := by
      simp only [List.length_append, List.length_cons, List.length_nil]
      omega
    rw [e, cutL_mid, List.take_left, List.drop_left]
theorem ok_ljoined {f : Addr} {fd : FuncData} (F : FunS K "_law_joined" s_l_joined f fd) (b_int : mg "int" = none) (b_len : mg "len" = none) (b_range : mg "range" = none) (c_l_small : Cal P w K mg base CX0 1 "_law_small" sp_small) : FnOk P w K mg base CX0 2 f fd ["_law_word_here", "_law_ending_here"] sp_ljoined := by
  refine F.ok sc_l_joined (fun vs H Q E h => ?_) (fun cdv A outer s H vs Q E hr h => ?_)
  · obtain ⟨u, d, f, r, rfl, _⟩ := h
    rfl
  obtain ⟨u, d, f, r, rfl, jp, k⟩ := h
  refine ⟨_, PSs.nox (pss_cons (ps_set (i := 2) sc_l_joined.nd rfl (.inr rfl) (pe_lower (pv 0)))
  (pss_cons (ps_set (i := 3) sc_l_joined.nd rfl (.inr rfl) (pe_lst (pa_cons pe_str (pa_cons pe_str (pa_cons pe_str (pa_cons pe_str (pa_cons pe_str pa_nil)))))))
  (pss_cons (ps_set (i := 4) sc_l_joined.nd rfl (.inl rfl) (pe_ix ix_str (pv 2) (pe_op op_sub (pe_callB call_len_str (by rfl) b_len PySem.boot_len (pa_cons (pv 2) pa_nil)) pe_int) (fun _ _ => rfl)))
  (pss_cons (ps_set (i := 5) sc_l_joined.nd rfl (.inl rfl) (pe_slice sl_str (pv 2) (po_some (pe_op op_sub (pe_callB call_len_str (by rfl) b_len PySem.boot_len (pa_cons (pv 2) pa_nil)) pe_int)) (po_some (pe_op op_sub (pe_callB call_len_str (by rfl) b_len PySem.boot_len (pa_cons (pv 2) pa_nil)) pe_int))))
  (pss_cons (ps_set (i := 6) sc_l_joined.nd rfl (.inl rfl) (pe_cmpR op_in_seq (pe_ix ix_str (pv 1) pe_int (fun _ _ => rfl)) (pv 3) (by rfl)))
  (pss_cons (ps_if (PW.pt (pw_and (pt_cmpR op_eq (pv 4) pe_str (nomark _)) (pw_and (pt_cmpR op_ne (pv 5) pe_str (nomark _)) (pw_and (pt_cmpR op_notIn_seq (pv 5) (pv 3) (by rfl)) (pw_and (pt_val (pe_c c_l_small hr (by first | decide | omega) (by rfl) (pa_cons (pe_ix ix_str (pv 1) pe_int (fun _ _ => rfl)) pa_nil))) (pw_and1 (pt_cmpR op_ne (pe_ix ix_str (pv 1) pe_int (fun _ _ => rfl)) pe_str (nomark _))))))))
    (pss_one (ps_ret (pe_op op_add_str (pe_slice sl_str (pv 0) po_none (po_some (pe_op op_sub (pe_callB call_len_str (by rfl) b_len PySem.boot_len (pa_cons (pv 0) pa_nil)) pe_int))) (pe_ix ix_list (pe_lst (pa_cons (pe_op op_add_str pe_str (pv 1)) (pa_cons pe_str pa_nil))) (pe_callTy call_int1 (by rfl) b_int (by decide +kernel) (pa_cons (pe_cmpR op_eq (pv 1) pe_str (nomark _)) pa_nil)) (fun _ _ => rfl)))))
    pss_nil)
  (pss_cons (ps_if (PW.pt (pw_and (pt_cmpR op_eq (pv 4) pe_str (nomark _)) (pw_and (pt_cmpR op_notIn_seq (pv 5) (pe_tup (pa_cons pe_str (pa_cons pe_str (pa_cons pe_str pa_nil)))) (by rfl)) (pw_and1 (pt_val (pv 6))))))
    (pss_one (ps_ret (pe_op op_add_str (pe_slice sl_str (pv 0) po_none (po_some (pe_op op_sub (pe_callB call_len_str (by rfl) b_len PySem.boot_len (pa_cons (pv 0) pa_nil)) pe_int))) (pv 1))))
    pss_nil)
  (pss_cons (ps_if (PW.pt (pw_and (pt_cmpR op_eq (pv 1) pe_str (nomark _)) (pw_and1 (PW.pt (pw_or (pt_cmpR op_in_seq (pv 4) (pe_tup (pa_cons pe_str (pa_cons pe_str (pa_cons pe_str pa_nil)))) (by rfl)) (pw_or1 (pt_cmpR op_in_seq (pe_op op_add_str (pv 5) (pv 4)) (pe_tup (pa_cons pe_str (pa_cons pe_str pa_nil))) (by rfl))))))))
    (pss_one (ps_ret (pe_op op_add_str (pv 0) pe_str)))
    pss_nil)
  (pss_cons (ps_setLc (i := 7) (own := [("_law_k", 8)]) rfl sc_l_joined.nd rfl rfl (sw_true rfl rfl rfl (by decide +kernel)) (pi_range1 (by rfl) b_range (pa_cons (pe_callB call_len_str (by rfl) b_len PySem.boot_len (pa_cons (pv 2) pa_nil)) pa_nil)) (blkOk_by (N := ["_law_word_here", "_law_ending_here", "_law_low", "_law_vowels", "_law_last", "_law_ahead", "_law_begins", "_law_heard", "_law_k"]) (sc := defScope s_l_joined) (own := [("_law_k", 8)]) (by decide +kernel)) (fun _ _ _ _ _ => (pg_name (i := 8) sc_l_joined.nd rfl (.inl rfl))) (fun _ _ _ _ _ => (pts_one (pt_cmpR (inK (K := K) op_in_seq rfl) (pe_ix ix_str (pv 2) (pv 8) (fun _ _ => rfl)) (pv 3) (by rfl)))) (fun _ _ _ _ _ => (pv 8)))
  (pss_cons (ps_if (PW.pt (pw_and (pt_val (pv 6)) (pw_and (pt_cmpR op_gt (pe_callB call_len_str (by rfl) b_len PySem.boot_len (pa_cons (pv 2) pa_nil)) pe_int (nomark _)) (pw_and (pt_cmpR (op_eqD hr.units) (pv 7) (pe_lst (pa_cons (pe_op op_sub (pe_callB call_len_str (by rfl) b_len PySem.boot_len (pa_cons (pv 2) pa_nil)) pe_int) pa_nil)) (nomark _)) (pw_and1 (pt_cmpR op_notIn_seq (pv 4) (pe_tup (pa_cons pe_str (pa_cons pe_str (pa_cons pe_str pa_nil)))) (by rfl)))))))
    (pss_one (ps_ret (pe_op op_add_str (pe_op op_add_str (pv 0) (pv 4)) (pv 1))))
    pss_nil)
  (pss_one (ps_ret (pe_op op_add_str (pv 0) (pv 1)))))))))))))), ?_⟩
  have ew : Txt.lower (S (u ++ [d])) = S (lo u ++ [PyProof.Rows.lo1 d]) := by
    rw [lower_lo jp.asc, lo, List.map_append]
    rfl
  have as : asc (lo u ++ [PyProof.Rows.lo1 d]) := by
    have := asc_lo jp.asc
    rw [lo, List.map_append] at this
    exact this
  have sm : ∀ c ∈ lo u ++ [PyProof.Rows.lo1 d], small c = true := fun c hc => by
    rcases List.mem_append.mp hc with h | h
    · obtain ⟨x, hx, rfl⟩ := List.mem_map.mp h
      exact jp.2.2.1 x hx
    · rw [List.mem_singleton.mp h]
      exact jp.2.2.2.1
  have ed : Txt.lower (S [d]) = S [PyProof.Rows.lo1 d] := lower_lo fun c hc => jp.asc c (List.mem_append_right _ hc)
  have pA := jp.1
  have pB := jp.2.1
  have z1 : (S (u ++ [d])).length ≤ sizeLine := size_le (by rw [S_len]; simp; omega)
  have z2 : (S (lo u ++ [PyProof.Rows.lo1 d])).length ≤ sizeLine := size_le (by rw [S_len]; simp; omega)
  have z3 : (S (f :: r)).length ≤ sizeLine := size_le (by rw [S_len]; simp; omega)
  have z4 : (lo u ++ [PyProof.Rows.lo1 d]).length ≤ 100000 := by simp; omega
  unfold jo at k
  simp only [tSeq, tAsg, tAnd, tOr, tNot, tTest, tB, tOp, tUn, tCB, tCons, tNil, tVar, tC, gName, rI0, rI, rU, rEq, rNe, rIxS, rIxL, rIxT, tRet, tRetN, tTup, tLst, tSl, tPart, tNoPart, rSlS, tIf, tNext, tDrop, tCall, tBM, tBM0, tAndV, tOrV, tNotV, tM0, tM1, gSub, rSetL, tMeth, tMake, tFld, tChain, tIsN, tNotN,
  List.set_cons_zero, List.set_cons_succ, exists_eq_left', exists_eq_left, exists_eq, V.int.injEq, V.str.injEq, V.bl.injEq, V.ref.injEq, List.cons.injEq, and_true, true_and, List.getElem?_cons_zero, List.getElem?_cons_succ, Option.some.injEq, List.append_nil, exists_and_left, cxOf_K, false_and, and_false, exists_false, false_or, or_false, exists_eq', exists_const, sg_eq, S_eq, S_toList, S_ne, tFor_eq, tLc_eq, iList_eq, iTup_eq, iRng1_eq, iStr_eq, decide_eq_true_eq, Bool.not_eq_true', decide_eq_false_iff_not, if_true, if_false, Bool.false_eq_true, reduceCtorEq, Bool.true_eq_false, decide_true, decide_false, lit_97, lit_101, lit_105, lit_111, lit_117, lit_121, lit_, lit_115, lit_101_115, lit_119, lit_120, lit_105_101_115, lit_122, lit_99_104, lit_115_104, start2_9, ew]
  refine ⟨Nat.le_trans (by rw [S_len]; simp; omega : (S (u ++ [d])).length ≤ 100000) (by decide), (size_le (by simp only [List.length_cons, List.length_nil]; decide)), ?_⟩
  (intro p np; generalize hqp : upd H p _ = H1; obtain ⟨e1, f1⟩ := al_ np hqp; clear hqp)
  have n1 : ((S (lo u ++ [PyProof.Rows.lo1 d])).length : Int) - 1 = ((lo u).length : Int) := by
    rw [S_len]
    simp
  have a1 : atI (lo u ++ [PyProof.Rows.lo1 d]) ((lo u).length : Int) = some (PyProof.Rows.lo1 d) := atI_at _ _ _
  simp only [n1, tSeq, tAsg, tAnd, tOr, tNot, tTest, tB, tOp, tUn, tCB, tCons, tNil, tVar, tC, gName, rI0, rI, rU, rEq, rNe, rIxS, rIxL, rIxT, tRet, tRetN, tTup, tLst, tSl, tPart, tNoPart, rSlS, tIf, tNext, tDrop, tCall, tBM, tBM0, tAndV, tOrV, tNotV, tM0, tM1, gSub, rSetL, tMeth, tMake, tFld, tChain, tIsN, tNotN,
  List.set_cons_zero, List.set_cons_succ, exists_eq_left', exists_eq_left, exists_eq, V.int.injEq, V.str.injEq, V.bl.injEq, V.ref.injEq, List.cons.injEq, and_true, true_and, List.getElem?_cons_zero, List.getElem?_cons_succ, Option.some.injEq, List.append_nil, exists_and_left, cxOf_K, false_and, and_false, exists_false, false_or, or_false, exists_eq', exists_const, sg_eq, S_eq, S_toList, S_ne, tFor_eq, tLc_eq, iList_eq, iTup_eq, iRng1_eq, iStr_eq, decide_eq_true_eq, Bool.not_eq_true', decide_eq_false_iff_not, if_true, if_false, Bool.false_eq_true, reduceCtorEq, Bool.true_eq_false, decide_true, decide_false, a1]
  have c1 : cutS (S (lo u ++ [PyProof.Rows.lo1 d])) (some (((S (lo u ++ [PyProof.Rows.lo1 d])).length : Int) - 2)) (some ((lo u).length : Int)) = S (ahd (lo u)) := cut_ah _ _
  have at0' : atI (f :: r) 0 = some f := atI_nat (j := 0) rfl
  simp only [c1, at0', tSeq, tAsg, tAnd, tOr, tNot, tTest, tB, tOp, tUn, tCB, tCons, tNil, tVar, tC, gName, rI0, rI, rU, rEq, rNe, rIxS, rIxL, rIxT, tRet, tRetN, tTup, tLst, tSl, tPart, tNoPart, rSlS, tIf, tNext, tDrop, tCall, tBM, tBM0, tAndV, tOrV, tNotV, tM0, tM1, gSub, rSetL, tMeth, tMake, tFld, tChain, tIsN, tNotN,
  List.set_cons_zero, List.set_cons_succ, exists_eq_left', exists_eq_left, exists_eq, V.int.injEq, V.str.injEq, V.bl.injEq, V.ref.injEq, List.cons.injEq, and_true, true_and, List.getElem?_cons_zero, List.getElem?_cons_succ, Option.some.injEq, List.append_nil, exists_and_left, cxOf_K, false_and, and_false, exists_false, false_or, or_false, exists_eq', exists_const, sg_eq, S_eq, S_toList, S_ne, tFor_eq, tLc_eq, iList_eq, iTup_eq, iRng1_eq, iStr_eq, decide_eq_true_eq, Bool.not_eq_true', decide_eq_false_iff_not, if_true, if_false, Bool.false_eq_true, reduceCtorEq, Bool.true_eq_false, decide_true, decide_false]
  refine ⟨z2, z2, z2, z2, z2, z3, ?_⟩
  have ev : ∀ c, [[97], [101], [105], [111], [117]].contains [c] = vow c := fun c => by
    simp [vow, List.contains_cons]
  refine in_lst' false [f] [[97], [101], [105], [111], [117]] f1 ?_
  rw [ev]
  simp only [tSeq, tAsg, tAnd, tOr, tNot, tTest, tB, tOp, tUn, tCB, tCons, tNil, tVar, tC, gName, rI0, rI, rU, rEq, rNe, rIxS, rIxL, rIxT, tRet, tRetN, tTup, tLst, tSl, tPart, tNoPart, rSlS, tIf, tNext, tDrop, tCall, tBM, tBM0, tAndV, tOrV, tNotV, tM0, tM1, gSub, rSetL, tMeth, tMake, tFld, tChain, tIsN, tNotN,
  List.set_cons_zero, List.set_cons_succ, exists_eq_left', exists_eq_left, exists_eq, V.int.injEq, V.str.injEq, V.bl.injEq, V.ref.injEq, List.cons.injEq, and_true, true_and, List.getElem?_cons_zero, List.getElem?_cons_succ, Option.some.injEq, List.append_nil, exists_and_left, cxOf_K, false_and, and_false, exists_false, false_or, or_false, exists_eq', exists_const, sg_eq, S_eq, S_toList, S_ne, tFor_eq, tLc_eq, iList_eq, iTup_eq, iRng1_eq, iStr_eq, decide_eq_true_eq, Bool.not_eq_true', decide_eq_false_iff_not, if_true, if_false, Bool.false_eq_true, reduceCtorEq, Bool.true_eq_false, decide_true, decide_false, if_false, Bool.false_eq_true]
  have zz : (S (lo u ++ [PyProof.Rows.lo1 d])).length = u.length + 1 := by
    rw [S_len]
    simp
  have zn : ((S (u ++ [d])).length : Int) - 1 = (u.length : Int) := by
    rw [S_len]
    simp
  have cu : cutS (S (u ++ [d])) none (some (u.length : Int)) = S u := by
    rw [cutS_S, cutL_to, List.take_left]
  -- y
  refine if_pure (cA (lo u) (PyProof.Rows.lo1 d) f) (fun R q => ?_) (fun e => ?_) (fun e => ?_)
  · simp only [tSeq, tAsg, tAnd, tOr, tNot, tTest, tB, tOp, tUn, tCB, tCons, tNil, tVar, tC, gName, rI0, rI, rU, rEq, rNe, rIxS, rIxL, rIxT, tRet, tRetN, tTup, tLst, tSl, tPart, tNoPart, rSlS, tIf, tIfS, tNext, tDrop, tCall, tBM, tBM0, tAndV, tOrV, tNotV, tM0, tM1, gSub, rSetL, tMeth, tMake, tFld, tChain, tIsN, tNotN,
  List.set_cons_zero, List.set_cons_succ, exists_eq_left', exists_eq_left, exists_eq, V.int.injEq, V.str.injEq, V.bl.injEq, V.ref.injEq, List.cons.injEq, and_true, true_and, List.getElem?_cons_zero, List.getElem?_cons_succ, Option.some.injEq, List.append_nil, exists_and_left, cxOf_K, false_and, and_false, exists_false, false_or, or_false, exists_eq', exists_const, sg_eq, S_eq, S_toList, S_ne, tFor_eq, tLc_eq, iList_eq, iTup_eq, iRng1_eq, iStr_eq, decide_eq_true_eq, Bool.not_eq_true', decide_eq_false_iff_not, if_true, if_false, Bool.false_eq_true, reduceCtorEq, Bool.true_eq_false, decide_true, decide_false, at0']
    unfold cA at q
    refine ⟨rfl, ite2 (fun h1 => ?_) (fun h1 => ?_)⟩
    · rw [h1] at q
      rcases ahd_cases (lo u) with ⟨_, h2⟩ | ⟨v, x, h3, h2⟩
      · rw [h2] at q ⊢
        exact ⟨rfl, by rw [if_neg (fun z => z rfl)]; exact q⟩
      · rw [h2] at q ⊢
        refine ⟨rfl, ?_⟩
        rw [if_pos (by simp)]
        refine in_lst' true [x] [[97], [101], [105], [111], [117]] f1 ⟨_, rfl, ?_⟩
        rw [ev]
        have sx : small x = true := sm x (by rw [h3]; simp)
        have ec : consT [x] = !vow x := by simp [consT, cons, sx]
        rw [ec] at q
        simp only [if_true]
        cases hv : vow x with
        | true =>
          rw [hv] at q
          exact q
        | false =>
          rw [hv] at q
          simp only [Bool.not_false, if_true]
          refine ⟨z3, f, rfl, _, rfl, ?_⟩
          rw [if_pos jp.2.2.2.2]
          refine ⟨z3, rfl, ?_⟩
          have e : (!decide (f = 105)) = (f != 105) := by
            rw [Bool.eq_iff_iff]
            simp
          rw [e]
          exact q
    · rw [show (PyProof.Rows.lo1 d == 121) = false from beq_eq_false_iff_ne.mpr h1] at q
      exact q
  · rw [if_pos e] at k
    simp only [tSeq, tAsg, tAnd, tOr, tNot, tTest, tB, tOp, tUn, tCB, tCons, tNil, tVar, tC, gName, rI0, rI, rU, rEq, rNe, rIxS, rIxL, rIxT, tRet, tRetN, tTup, tLst, tSl, tPart, tNoPart, rSlS, tIf, tIfS, tNext, tDrop, tCall, tBM, tBM0, tAndV, tOrV, tNotV, tM0, tM1, gSub, rSetL, tMeth, tMake, tFld, tChain, tIsN, tNotN,
  List.set_cons_zero, List.set_cons_succ, exists_eq_left', exists_eq_left, exists_eq, V.int.injEq, V.str.injEq, V.bl.injEq, V.ref.injEq, List.cons.injEq, and_true, true_and, List.getElem?_cons_zero, List.getElem?_cons_succ, Option.some.injEq, List.append_nil, exists_and_left, cxOf_K, false_and, and_false, exists_false, false_or, or_false, exists_eq', exists_const, sg_eq, S_eq, S_toList, S_ne, tFor_eq, tLc_eq, iList_eq, iTup_eq, iRng1_eq, iStr_eq, decide_eq_true_eq, Bool.not_eq_true', decide_eq_false_iff_not, if_true, if_false, Bool.false_eq_true, reduceCtorEq, Bool.true_eq_false, decide_true, decide_false, zn, cu, S_cat]
    refine ⟨z1, z1, (size_le (by (try simp only [S_len, List.length_append, List.length_cons, List.length_nil]); omega)), (size_le (by simp only [List.length_cons, List.length_nil]; decide)), fun p2 n2 => ⟨rfl, _, sq_of upd_same, ?_⟩⟩
    by_cases h : f :: r = [115]
    · rw [if_pos h] at k
      cases h
      rw [if_pos ⟨rfl, rfl⟩]
      refine ⟨_, atI_nat (j := 1) rfl, _, rfl, (size_le (by (try simp only [S_len, List.length_append, List.length_cons, List.length_nil]); omega)), ?_⟩
      rw [S_cat]
      exact k _ (e1.trans (same_new n2))
    · rw [if_neg h] at k
      rw [if_neg (fun z => h (by rw [z.1, z.2]))]
      refine ⟨_, atI_nat (j := 0) rfl, _, rfl, (size_le (by (try simp only [S_len, List.length_append, List.length_cons, List.length_nil]); omega)), ?_⟩
      rw [S_cat]
      exact k _ (e1.trans (same_new n2))
  rw [if_neg (by rw [e]; decide)] at k
  simp only [tSeq, tAsg, tAnd, tOr, tNot, tTest, tB, tOp, tUn, tCB, tCons, tNil, tVar, tC, gName, rI0, rI, rU, rEq, rNe, rIxS, rIxL, rIxT, tRet, tRetN, tTup, tLst, tSl, tPart, tNoPart, rSlS, tIf, tNext, tDrop, tCall, tBM, tBM0, tAndV, tOrV, tNotV, tM0, tM1, gSub, rSetL, tMeth, tMake, tFld, tChain, tIsN, tNotN,
  List.set_cons_zero, List.set_cons_succ, exists_eq_left', exists_eq_left, exists_eq, V.int.injEq, V.str.injEq, V.bl.injEq, V.ref.injEq, List.cons.injEq, and_true, true_and, List.getElem?_cons_zero, List.getElem?_cons_succ, Option.some.injEq, List.append_nil, exists_and_left, cxOf_K, false_and, and_false, exists_false, false_or, or_false, exists_eq', exists_const, sg_eq, S_eq, S_toList, S_ne, tFor_eq, tLc_eq, iList_eq, iTup_eq, iRng1_eq, iStr_eq, decide_eq_true_eq, Bool.not_eq_true', decide_eq_false_iff_not, if_true, if_false, Bool.false_eq_true, reduceCtorEq, Bool.true_eq_false, decide_true, decide_false]
  refine if_new (cE (lo u) (PyProof.Rows.lo1 d) f) (fun R q => ?_) (fun e H2 s2 => ?_) (fun e H2 s2 => ?_)
  · simp only [tSeq, tAsg, tAnd, tOr, tNot, tTest, tB, tOp, tUn, tCB, tCons, tNil, tVar, tC, gName, rI0, rI, rU, rEq, rNe, rIxS, rIxL, rIxT, tRet, tRetN, tTup, tLst, tSl, tPart, tNoPart, rSlS, tIf, tIfS, tNext, tDrop, tCall, tBM, tBM0, tAndV, tOrV, tNotV, tM0, tM1, gSub, rSetL, tMeth, tMake, tFld, tChain, tIsN, tNotN,
  List.set_cons_zero, List.set_cons_succ, exists_eq_left', exists_eq_left, exists_eq, V.int.injEq, V.str.injEq, V.bl.injEq, V.ref.injEq, List.cons.injEq, and_true, true_and, List.getElem?_cons_zero, List.getElem?_cons_succ, Option.some.injEq, List.append_nil, exists_and_left, cxOf_K, false_and, and_false, exists_false, false_or, or_false, exists_eq', exists_const, sg_eq, S_eq, S_toList, S_ne, tFor_eq, tLc_eq, iList_eq, iTup_eq, iRng1_eq, iStr_eq, decide_eq_true_eq, Bool.not_eq_true', decide_eq_false_iff_not, if_true, if_false, Bool.false_eq_true, reduceCtorEq, Bool.true_eq_false, decide_true, decide_false]
    unfold cE at q
    refine ⟨rfl, ite2 (fun h1 => ⟨(size_le (by simp only [List.length_cons, List.length_nil]; decide)), fun p np => in_tup true (ahd (lo u)) [[101], [111], [121]] np fun H' s' => ⟨_, rfl, ?_⟩⟩) (fun h1 => ?_)⟩
    · rw [h1] at q
      have q := q H' s'
      simp only [if_true]
      cases hc : [[101], [111], [121]].contains (ahd (lo u)) with
      | false =>
        rw [hc] at q
        simp only [Bool.not_false, if_true]
        exact q
      | true =>
        rw [hc] at q
        exact q
    · rw [show (PyProof.Rows.lo1 d == 101) = false from beq_eq_false_iff_ne.mpr h1] at q
      exact q _ (Same.refl _)
  · rw [if_pos e] at k
    simp only [tSeq, tAsg, tAnd, tOr, tNot, tTest, tB, tOp, tUn, tCB, tCons, tNil, tVar, tC, gName, rI0, rI, rU, rEq, rNe, rIxS, rIxL, rIxT, tRet, tRetN, tTup, tLst, tSl, tPart, tNoPart, rSlS, tIf, tIfS, tNext, tDrop, tCall, tBM, tBM0, tAndV, tOrV, tNotV, tM0, tM1, gSub, rSetL, tMeth, tMake, tFld, tChain, tIsN, tNotN,
  List.set_cons_zero, List.set_cons_succ, exists_eq_left', exists_eq_left, exists_eq, V.int.injEq, V.str.injEq, V.bl.injEq, V.ref.injEq, List.cons.injEq, and_true, true_and, List.getElem?_cons_zero, List.getElem?_cons_succ, Option.some.injEq, List.append_nil, exists_and_left, cxOf_K, false_and, and_false, exists_false, false_or, or_false, exists_eq', exists_const, sg_eq, S_eq, S_toList, S_ne, tFor_eq, tLc_eq, iList_eq, iTup_eq, iRng1_eq, iStr_eq, decide_eq_true_eq, Bool.not_eq_true', decide_eq_false_iff_not, if_true, if_false, Bool.false_eq_true, reduceCtorEq, Bool.true_eq_false, decide_true, decide_false, zn, cu, S_cat]
    refine ⟨z1, z1, (size_le (by (try simp only [S_len, List.length_append, List.length_cons, List.length_nil]); omega)), k _ (e1.trans s2)⟩
  rw [if_neg (by rw [e]; decide)] at k
  simp only [tSeq, tAsg, tAnd, tOr, tNot, tTest, tB, tOp, tUn, tCB, tCons, tNil, tVar, tC, gName, rI0, rI, rU, rEq, rNe, rIxS, rIxL, rIxT, tRet, tRetN, tTup, tLst, tSl, tPart, tNoPart, rSlS, tIf, tNext, tDrop, tCall, tBM, tBM0, tAndV, tOrV, tNotV, tM0, tM1, gSub, rSetL, tMeth, tMake, tFld, tChain, tIsN, tNotN,
  List.set_cons_zero, List.set_cons_succ, exists_eq_left', exists_eq_left, exists_eq, V.int.injEq, V.str.injEq, V.bl.injEq, V.ref.injEq, List.cons.injEq, and_true, true_and, List.getElem?_cons_zero, List.getElem?_cons_succ, Option.some.injEq, List.append_nil, exists_and_left, cxOf_K, false_and, and_false, exists_false, false_or, or_false, exists_eq', exists_const, sg_eq, S_eq, S_toList, S_ne, tFor_eq, tLc_eq, iList_eq, iTup_eq, iRng1_eq, iStr_eq, decide_eq_true_eq, Bool.not_eq_true', decide_eq_false_iff_not, if_true, if_false, Bool.false_eq_true, reduceCtorEq, Bool.true_eq_false, decide_true, decide_false]
  refine if_new (cZ (lo u) (PyProof.Rows.lo1 d) (f :: r)) (fun R q => ?_) (fun e H3 s3 => ?_) (fun e H3 s3 => ?_)
  · simp only [tSeq, tAsg, tAnd, tOr, tNot, tTest, tB, tOp, tUn, tCB, tCons, tNil, tVar, tC, gName, rI0, rI, rU, rEq, rNe, rIxS, rIxL, rIxT, tRet, tRetN, tTup, tLst, tSl, tPart, tNoPart, rSlS, tIf, tIfS, tNext, tDrop, tCall, tBM, tBM0, tAndV, tOrV, tNotV, tM0, tM1, gSub, rSetL, tMeth, tMake, tFld, tChain, tIsN, tNotN,
  List.set_cons_zero, List.set_cons_succ, exists_eq_left', exists_eq_left, exists_eq, V.int.injEq, V.str.injEq, V.bl.injEq, V.ref.injEq, List.cons.injEq, and_true, true_and, List.getElem?_cons_zero, List.getElem?_cons_succ, Option.some.injEq, List.append_nil, exists_and_left, cxOf_K, false_and, and_false, exists_false, false_or, or_false, exists_eq', exists_const, sg_eq, S_eq, S_toList, S_ne, tFor_eq, tLc_eq, iList_eq, iTup_eq, iRng1_eq, iStr_eq, decide_eq_true_eq, Bool.not_eq_true', decide_eq_false_iff_not, if_true, if_false, Bool.false_eq_true, reduceCtorEq, Bool.true_eq_false, decide_true, decide_false, S_cat]
    unfold cZ at q
    refine ⟨rfl, ite2 (fun h1 => ⟨(size_le (by simp only [List.length_cons, List.length_nil]; decide)), fun p np => in_tup false [PyProof.Rows.lo1 d] [[115], [120], [122]] np fun H' s' => ⟨_, rfl, ?_⟩⟩) (fun h1 => ?_)⟩
    · rw [show (f :: r == [115]) = true from by rw [h1.1, h1.2]; rfl] at q
      cases hc : [[115], [120], [122]].contains [PyProof.Rows.lo1 d] with
      | true =>
        rw [hc] at q
        exact q _ s'
      | false =>
        rw [hc] at q
        simp only [Bool.false_eq_true, if_false]
        have hl := ahd_len (lo u)
        exact ⟨(size_le (by (try simp only [S_len, List.length_append, List.length_cons, List.length_nil]); omega)), (size_le (by simp only [List.length_cons, List.length_nil]; decide)), fun p np => in_tup false (ahd (lo u) ++ [PyProof.Rows.lo1 d]) [[99, 104], [115, 104]] np fun H3 s3 => ⟨_, rfl, q _ (s'.trans s3)⟩⟩
    · rw [show (f :: r == [115]) = false from beq_eq_false_iff_ne.mpr fun z => by cases z; exact h1 ⟨rfl, rfl⟩] at q
      exact q _ (Same.refl _)
  · rw [if_pos e] at k
    simp only [tSeq, tAsg, tAnd, tOr, tNot, tTest, tB, tOp, tUn, tCB, tCons, tNil, tVar, tC, gName, rI0, rI, rU, rEq, rNe, rIxS, rIxL, rIxT, tRet, tRetN, tTup, tLst, tSl, tPart, tNoPart, rSlS, tIf, tIfS, tNext, tDrop, tCall, tBM, tBM0, tAndV, tOrV, tNotV, tM0, tM1, gSub, rSetL, tMeth, tMake, tFld, tChain, tIsN, tNotN,
  List.set_cons_zero, List.set_cons_succ, exists_eq_left', exists_eq_left, exists_eq, V.int.injEq, V.str.injEq, V.bl.injEq, V.ref.injEq, List.cons.injEq, and_true, true_and, List.getElem?_cons_zero, List.getElem?_cons_succ, Option.some.injEq, List.append_nil, exists_and_left, cxOf_K, false_and, and_false, exists_false, false_or, or_false, exists_eq', exists_const, sg_eq, S_eq, S_toList, S_ne, tFor_eq, tLc_eq, iList_eq, iTup_eq, iRng1_eq, iStr_eq, decide_eq_true_eq, Bool.not_eq_true', decide_eq_false_iff_not, if_true, if_false, Bool.false_eq_true, reduceCtorEq, Bool.true_eq_false, decide_true, decide_false, S_cat]
    refine ⟨(size_le (by (try simp only [S_len, List.length_append, List.length_cons, List.length_nil]); omega)), k _ ((e1.trans s2).trans s3)⟩
  rw [if_neg (by rw [e]; decide)] at k
  simp only [tSeq, tAsg, tAnd, tOr, tNot, tTest, tB, tOp, tUn, tCB, tCons, tNil, tVar, tC, gName, rI0, rI, rU, rEq, rNe, rIxS, rIxL, rIxT, tRet, tRetN, tTup, tLst, tSl, tPart, tNoPart, rSlS, tIf, tNext, tDrop, tCall, tBM, tBM0, tAndV, tOrV, tNotV, tM0, tM1, gSub, rSetL, tMeth, tMake, tFld, tChain, tIsN, tNotN,
  List.set_cons_zero, List.set_cons_succ, exists_eq_left', exists_eq_left, exists_eq, V.int.injEq, V.str.injEq, V.bl.injEq, V.ref.injEq, List.cons.injEq, and_true, true_and, List.getElem?_cons_zero, List.getElem?_cons_succ, Option.some.injEq, List.append_nil, exists_and_left, cxOf_K, false_and, and_false, exists_false, false_or, or_false, exists_eq', exists_const, sg_eq, S_eq, S_toList, S_ne, tFor_eq, tLc_eq, iList_eq, iTup_eq, iRng1_eq, iStr_eq, decide_eq_true_eq, Bool.not_eq_true', decide_eq_false_iff_not, if_true, if_false, Bool.false_eq_true, reduceCtorEq, Bool.true_eq_false, decide_true, decide_false]
  rw [zz]
  refine ⟨size_le (by omega), by omega, by omega, fun L hL => ?_⟩
  rw [Int.toNat_natCast]
  have f3 := s3 _ _ (s2 _ _ f1)
  have tl : (lo u ++ [PyProof.Rows.lo1 d]).length = u.length + 1 := by simp
  refine comp_range (fun i acc H4 => acc = (heard (lo u ++ [PyProof.Rows.lo1 d]) i).map (fun x : Nat => V.int (x : Int)) ∧ Same H3 H4) (by omega) ⟨rfl, same_new hL⟩ upd_same ?_ ?_
  · rintro i acc H4 hi hA hn hi2 ⟨rfl, s4⟩
    simp only [wipe, List.map_cons, List.map_nil, List.set_cons_succ, List.set_cons_zero, tSeq, tAsg, tAnd, tOr, tNot, tTest, tB, tOp, tUn, tCB, tCons, tNil, tVar, tC, gName, rI0, rI, rU, rEq, rNe, rIxS, rIxL, rIxT, tRet, tRetN, tTup, tLst, tSl, tPart, tNoPart, rSlS, tIf, tIfS, tNext, tDrop, tCall, tBM, tBM0, tAndV, tOrV, tNotV, tM0, tM1, gSub, rSetL, tMeth, tMake, tFld, tChain, tIsN, tNotN,
  List.set_cons_zero, List.set_cons_succ, exists_eq_left', exists_eq_left, exists_eq, V.int.injEq, V.str.injEq, V.bl.injEq, V.ref.injEq, List.cons.injEq, and_true, true_and, List.getElem?_cons_zero, List.getElem?_cons_succ, Option.some.injEq, List.append_nil, exists_and_left, cxOf_K, false_and, and_false, exists_false, false_or, or_false, exists_eq', exists_const, sg_eq, S_eq, S_toList, S_ne, tFor_eq, tLc_eq, iList_eq, iTup_eq, iRng1_eq, iStr_eq, decide_eq_true_eq, Bool.not_eq_true', decide_eq_false_iff_not, if_true, if_false, Bool.false_eq_true, reduceCtorEq, Bool.true_eq_false, decide_true, decide_false]
    have hi3 : i < (lo u ++ [PyProof.Rows.lo1 d]).length := by rw [tl]; exact hi
    refine ⟨z2, _, atI_nat (List.getElem?_eq_getElem hi3), ?_⟩
    refine in_lst' false [(lo u ++ [PyProof.Rows.lo1 d])[i]] [[97], [101], [105], [111], [117]] (s4 _ _ f3) ?_
    rw [ev]
    refine ⟨_, rfl, ?_⟩
    simp only [if_false, Bool.false_eq_true]
    refine ite2 (fun hv => cput hA hn hi2 ⟨?_, same_mut s4 hL⟩) (fun hv => cskip hA hn ⟨?_, s4⟩)
    · rw [heard_succ _ _ hi3, if_pos hv, List.map_append]
      rfl
    · rw [heard_succ _ _ hi3, if_neg hv]
  · rintro acc H4 hA hn ⟨rfl, s4⟩
    refine if_new (cD (lo u) (PyProof.Rows.lo1 d) f) (fun R q => ?_) (fun e H5 s5 => ?_) (fun e H5 s5 => ?_)
    · simp only [tSeq, tAsg, tAnd, tOr, tNot, tTest, tB, tOp, tUn, tCB, tCons, tNil, tVar, tC, gName, rI0, rI, rU, rEq, rNe, rIxS, rIxL, rIxT, tRet, tRetN, tTup, tLst, tSl, tPart, tNoPart, rSlS, tIf, tIfS, tNext, tDrop, tCall, tBM, tBM0, tAndV, tOrV, tNotV, tM0, tM1, gSub, rSetL, tMeth, tMake, tFld, tChain, tIsN, tNotN,
  List.set_cons_zero, List.set_cons_succ, exists_eq_left', exists_eq_left, exists_eq, V.int.injEq, V.str.injEq, V.bl.injEq, V.ref.injEq, List.cons.injEq, and_true, true_and, List.getElem?_cons_zero, List.getElem?_cons_succ, Option.some.injEq, List.append_nil, exists_and_left, cxOf_K, false_and, and_false, exists_false, false_or, or_false, exists_eq', exists_const, sg_eq, S_eq, S_toList, S_ne, tFor_eq, tLc_eq, iList_eq, iTup_eq, iRng1_eq, iStr_eq, decide_eq_true_eq, Bool.not_eq_true', decide_eq_false_iff_not, if_true, if_false, Bool.false_eq_true, reduceCtorEq, Bool.true_eq_false, decide_true, decide_false, zz]
      have hs := heard_short (lo u ++ [PyProof.Rows.lo1 d]) sm
      rw [tl] at hs
      unfold cD at q
      rw [← hs] at q
      refine ite2 (fun hv => ⟨size_le (by omega), ite2 (fun h2 => ⟨size_le (by omega), (size_le (by simp only [List.length_cons, List.length_nil]; decide)), fun p2 n2 => ?_⟩) (fun h2 => ?_)⟩) (fun hv => ?_)
      · have h3 : 2 < u.length + 1 := by omega
        rw [hv, Bool.and_true, decide_eq_true h3, Bool.true_and] at q
        have e9 : ((u.length + 1 : Nat) : Int) - 2 = ((u.length + 1 - 2 : Nat) : Int) := by omega
        rw [e9]
        have hL2 : (upd H4 p2 (.lst [V.int ((u.length + 1 - 2 : Nat) : Int)])) L = some (.lst (((heard (lo u ++ [PyProof.Rows.lo1 d]) (u.length + 1)).map fun x : Nat => (x : Int)).map V.int)) := by
          rw [upd_ne (ne_of_none hA n2), List.map_map]
          exact hA
        refine ⟨_, _, .lst (sq_of hL2) (dp_ints _), .lst (sq_of (xs := [_]) upd_same) (dp_ints [_]), shaped_ints _, shaped_ints [_], _, rfl, ?_⟩
        rw [show ([((u.length + 1 - 2 : Nat) : Int)].map PyData.int) = [PyData.int ((u.length + 1 - 2 : Nat) : Int)] from rfl, eqv_int1]
        have e10 : decide ((heard (lo u ++ [PyProof.Rows.lo1 d]) (u.length + 1)).map (fun x : Nat => (x : Int)) = [((u.length + 1 - 2 : Nat) : Int)]) = decide (heard (lo u ++ [PyProof.Rows.lo1 d]) (u.length + 1) = [u.length + 1 - 2]) := by
          rw [Bool.eq_iff_iff, decide_eq_true_eq, decide_eq_true_eq]
          constructor
          · intro h
            match heard (lo u ++ [PyProof.Rows.lo1 d]) (u.length + 1), h with
            | [], h => cases h
            | [x], h =>
              simp only [List.map_cons, List.map_nil, List.cons.injEq, and_true] at h ⊢
              omega
            | x :: y :: r, h => cases h
          · intro h
            rw [h]
            rfl
        rw [e10]
        have dl : (lo u ++ [PyProof.Rows.lo1 d]).drop (u.length + 1 - 1) = [PyProof.Rows.lo1 d] := by
          have : u.length + 1 - 1 = (lo u).length := by simp
          rw [this, List.drop_left]
        rw [dl] at q
        cases hh : decide (heard (lo u ++ [PyProof.Rows.lo1 d]) (u.length + 1) = [u.length + 1 - 2]) with
        | false =>
          rw [hh] at q
          exact q _ (same_new n2)
        | true =>
          rw [hh] at q
          simp only [if_true]
          exact ⟨(size_le (by simp only [List.length_cons, List.length_nil]; decide)), fun p np => in_tup true [PyProof.Rows.lo1 d] [[119], [120], [121]] np fun H6 s6 => ⟨_, rfl, q _ ((same_new n2).trans s6)⟩⟩
      · have h3 : ¬ 2 < u.length + 1 := by omega
        rw [decide_eq_false h3] at q
        exact q _ (Same.refl _)
      · rw [Bool.not_eq_true] at hv
        rw [hv, Bool.and_false] at q
        exact q _ (Same.refl _)
    · rw [if_pos e] at k
      simp only [tSeq, tAsg, tAnd, tOr, tNot, tTest, tB, tOp, tUn, tCB, tCons, tNil, tVar, tC, gName, rI0, rI, rU, rEq, rNe, rIxS, rIxL, rIxT, tRet, tRetN, tTup, tLst, tSl, tPart, tNoPart, rSlS, tIf, tIfS, tNext, tDrop, tCall, tBM, tBM0, tAndV, tOrV, tNotV, tM0, tM1, gSub, rSetL, tMeth, tMake, tFld, tChain, tIsN, tNotN,
  List.set_cons_zero, List.set_cons_succ, exists_eq_left', exists_eq_left, exists_eq, V.int.injEq, V.str.injEq, V.bl.injEq, V.ref.injEq, List.cons.injEq, and_true, true_and, List.getElem?_cons_zero, List.getElem?_cons_succ, Option.some.injEq, List.append_nil, exists_and_left, cxOf_K, false_and, and_false, exists_false, false_or, or_false, exists_eq', exists_const, sg_eq, S_eq, S_toList, S_ne, tFor_eq, tLc_eq, iList_eq, iTup_eq, iRng1_eq, iStr_eq, decide_eq_true_eq, Bool.not_eq_true', decide_eq_false_iff_not, if_true, if_false, Bool.false_eq_true, reduceCtorEq, Bool.true_eq_false, decide_true, decide_false, S_cat]
      refine ⟨(size_le (by (try simp only [S_len, List.length_append, List.length_cons, List.length_nil]); omega)), (size_le (by (try simp only [S_len, List.length_append, List.length_cons, List.length_nil]); omega)), k _ ((((e1.trans s2).trans s3).trans s4).trans s5)⟩
    · rw [if_neg (by rw [e]; decide)] at k
      simp only [tSeq, tAsg, tAnd, tOr, tNot, tTest, tB, tOp, tUn, tCB, tCons, tNil, tVar, tC, gName, rI0, rI, rU, rEq, rNe, rIxS, rIxL, rIxT, tRet, tRetN, tTup, tLst, tSl, tPart, tNoPart, rSlS, tIf, tIfS, tNext, tDrop, tCall, tBM, tBM0, tAndV, tOrV, tNotV, tM0, tM1, gSub, rSetL, tMeth, tMake, tFld, tChain, tIsN, tNotN,
  List.set_cons_zero, List.set_cons_succ, exists_eq_left', exists_eq_left, exists_eq, V.int.injEq, V.str.injEq, V.bl.injEq, V.ref.injEq, List.cons.injEq, and_true, true_and, List.getElem?_cons_zero, List.getElem?_cons_succ, Option.some.injEq, List.append_nil, exists_and_left, cxOf_K, false_and, and_false, exists_false, false_or, or_false, exists_eq', exists_const, sg_eq, S_eq, S_toList, S_ne, tFor_eq, tLc_eq, iList_eq, iTup_eq, iRng1_eq, iStr_eq, decide_eq_true_eq, Bool.not_eq_true', decide_eq_false_iff_not, if_true, if_false, Bool.false_eq_true, reduceCtorEq, Bool.true_eq_false, decide_true, decide_false, S_cat]
      exact ⟨(size_le (by (try simp only [S_len, List.length_append, List.length_cons, List.length_nil]); omega)), k _ ((((e1.trans s2).trans s3).trans s4).trans s5)⟩
end
/-! ### the law of endings -/
theorem letr_up : ∀ c, c < 128 → letr c = true → letr (PyProof.Rows.up1 c) = true := by decide +kernel
/-- a word of letters -/
def lword (n : Nat) (t : Tx) : Prop := 1 ≤ t.length ∧ t.length ≤ n ∧ ∀ c ∈ t, letr c = true
theorem lword.asc {n : Nat} {t : Tx} (h : lword n t) : asc t := fun c hc => letr_lt (h.2.2 c hc)
abbrev s_law : Stmt := (top 15)
theorem sc_law : FnScope ["_law_script", "_law_box", "_law_some", "_law_many", "_law_ends", "_law_word_here", "_law_size", "_law_ending_here", "_law_told", "_law_k"] ["_law_script"] (defScope s_law) := ⟨rfl, rfl, rfl, by decide +kernel, rfl, by decide +kernel, by decide +kernel⟩

def sp_law (K : PySem.W.Frag) : Sp := fun vs H Q _ => ∃ (a : Addr) (ns : List Int), vs = [.ref a] ∧ SqL K H a (ns.map V.int) ∧ ns.length ≤ 63 ∧ ∀ H', Q (.bl true) H'
section
variable {P : Program} {w : World} {K : PySem.W.Frag} {mg : Str → Option Value} {base : Heap}
theorem ok_law {f : Addr} {fd : FuncData} (F : FunS K "law" s_law f fd) (b_int : mg "int" = none) (b_isinstance : mg "isinstance" = none) (b_len : mg "len" = none) (b_range : mg "range" = none) (b_str : mg "str" = none) (c_l_begun : Cal P w K mg base CX0 1 "_law_begun" (sp_begun K)) (c_l_take : Cal P w K mg base CX0 1 "_law_take" sp_take) (c_l_ending : Cal P w K mg base CX0 3 "_law_ending" sp_ending) (c_l_small : Cal P w K mg base CX0 1 "_law_small" sp_small) (c_joined : Cal P w K mg base CX0 3 "joined" sp_joined) (c_l_joined : Cal P w K mg base CX0 2 "_law_joined" sp_ljoined) : FnOk P w K mg base CX0 8 f fd ["_law_script"] (sp_law K) := by
  refine F.ok sc_law (fun vs H Q E h => ?_) (fun cdv A outer s H vs Q E hr h => ?_)
  · obtain ⟨a, ns, rfl, _⟩ := h
    rfl
  obtain ⟨a, ns, rfl, hS, hn, k⟩ := h
  refine ⟨_, PSs.nox (pss_cons (ps_set (i := 1) sc_law.nd rfl (.inr rfl) (pe_c c_l_begun hr (by first | decide | omega) (by rfl) (pa_cons (pv 0) pa_nil)))
  (pss_cons (ps_set (i := 2) sc_law.nd rfl (.inr rfl) (pe_ix ix_list (pe_lst (pa_cons pe_str (pa_cons pe_str pa_nil))) (pe_c c_l_take hr (by first | decide | omega) (by rfl) (pa_cons (pv 1) (pa_cons pe_int pa_nil))) (fun _ _ => rfl)))
  (pss_cons (ps_set (i := 3) sc_law.nd rfl (.inl rfl) (pe_c c_l_take hr (by first | decide | omega) (by rfl) (pa_cons (pv 1) (pa_cons (pe_ix ix_list (pe_lst (pa_cons pe_int (pa_cons pe_int pa_nil))) (pe_callTy call_int1 (by rfl) b_int (by decide +kernel) (pa_cons (pe_cmpR op_eq (pe_c c_l_take hr (by first | decide | omega) (by rfl) (pa_cons (pv 1) (pa_cons pe_int pa_nil))) pe_int (nomark _)) pa_nil)) (fun _ _ => rfl)) pa_nil))))
  (pss_cons (ps_set (i := 4) sc_law.nd rfl (.inl rfl) (pe_lst (pa_cons pe_str (pa_cons pe_str (pa_cons pe_str (pa_cons pe_str (pa_cons pe_str (pa_cons pe_str (pa_cons pe_str (pa_cons pe_str (pa_cons pe_str (pa_cons pe_str (pa_cons pe_str (pa_cons pe_str (pa_cons pe_str (pa_cons pe_str (pa_cons pe_str (pa_cons pe_str (pa_cons pe_str pa_nil)))))))))))))))))))
  (pss_cons (ps_set (i := 5) sc_law.nd rfl (.inl rfl) (pe_join pe_str (pe_lc (own := [("_law_k", 9)]) rfl sc_law.nd (pi_range1 (by rfl) b_range (pa_cons (pv 3) pa_nil)) (blkOk_by (N := ["_law_script", "_law_box", "_law_some", "_law_many", "_law_ends", "_law_word_here", "_law_size", "_law_ending_here", "_law_told", "_law_k"]) (sc := defScope s_law) (own := [("_law_k", 9)]) (by decide +kernel)) (fun _ _ _ _ _ => (pg_name (i := 9) sc_law.nd rfl (.inl rfl))) (fun _ _ _ _ _ => pts_nil) (fun _ _ _ _ _ => (pe_ix ix_str (pv 2) (pe_c c_l_take hr (by first | decide | omega) (by rfl) (pa_cons (pv 1) (pa_cons (pe_callB call_len_str (by rfl) b_len PySem.boot_len (pa_cons (pv 2) pa_nil)) pa_nil))) (fun _ _ => rfl))))))
  (pss_cons (ps_if (PW.pt (pw_or (pt_cmpR op_eq (pv 5) pe_str (nomark _)) (pw_or1 (pt_cmpR op_eq (pe_c c_l_take hr (by first | decide | omega) (by rfl) (pa_cons (pv 1) (pa_cons pe_int pa_nil))) pe_int (nomark _)))))
    (pss_one (ps_set (i := 5) sc_law.nd rfl (.inl rfl) (pe_op op_add_str (pe_slice sl_str (pv 5) po_none (po_some pe_int)) (pe_ix ix_list (pv 4) (pe_c c_l_take hr (by first | decide | omega) (by rfl) (pa_cons (pv 1) (pa_cons pe_int pa_nil))) (fun _ _ => rfl)))))
    pss_nil)
  (pss_cons (ps_set (i := 6) sc_law.nd rfl (.inl rfl) (pe_c c_l_take hr (by first | decide | omega) (by rfl) (pa_cons (pv 1) (pa_cons pe_int pa_nil))))
  (pss_cons (ps_if (pt_cmpR op_eq (pv 6) pe_int (nomark _))
    (pss_one (ps_set (i := 5) sc_law.nd rfl (.inl rfl) (pe_op op_add_str (pe_upper (pe_ix ix_str (pv 5) pe_int (fun _ _ => rfl))) (pe_slice sl_str (pv 5) (po_some pe_int) po_none))))
    pss_nil)
  (pss_cons (ps_if (pt_cmpR op_eq (pv 6) pe_int (nomark _))
    (pss_one (ps_set (i := 5) sc_law.nd rfl (.inl rfl) (pe_upper (pv 5))))
    pss_nil)
  (pss_cons (ps_set (i := 7) sc_law.nd rfl (.inl rfl) (pe_c c_l_ending hr (by first | decide | omega) (by rfl) (pa_cons (pv 1) pa_nil)))
  (pss_cons (ps_if (pt_not (pt_val (pe_c c_l_small hr (by first | decide | omega) (by rfl) (pa_cons (pe_ix ix_str (pv 7) pe_int (fun _ _ => rfl)) pa_nil))))
    (pss_one (ps_set (i := 7) sc_law.nd rfl (.inl rfl) (pe_op op_add_str pe_str (pv 7))))
    pss_nil)
  (pss_cons (ps_set (i := 8) sc_law.nd rfl (.inl rfl) (pe_c c_joined hr (by first | decide | omega) (by rfl) (pa_cons (pv 5) (pa_cons (pv 7) pa_nil))))
  (pss_one (ps_ret (pe_and (pe_callB call_isi (by rfl) b_isinstance (by decide +kernel) (pa_cons (pv 8) (pa_cons (pe_bltn (v := .ty "str") (by rfl) b_str (by decide +kernel) rfl) pa_nil))) (pe_one (pe_cmpR op_eq (pv 8) (pe_c c_l_joined hr (by first | decide | omega) (by rfl) (pa_cons (pv 5) (pa_cons (pv 7) pa_nil))) (nomark _)))))))))))))))))), ?_⟩
  simp only [tSeq, tAsg, tAnd, tOr, tNot, tTest, tB, tOp, tUn, tCB, tCons, tNil, tVar, tC, gName, rI0, rI, rU, rEq, rNe, rIxS, rIxL, rIxT, tRet, tRetN, tTup, tLst, tSl, tPart, tNoPart, rSlS, tIf, tNext, tDrop, tCall, tBM, tBM0, tAndV, tOrV, tNotV, tM0, tM1, gSub, rSetL, tMeth, tMake, tFld, tChain, tIsN, tNotN,
  List.set_cons_zero, List.set_cons_succ, exists_eq_left', exists_eq_left, exists_eq, V.int.injEq, V.str.injEq, V.bl.injEq, V.ref.injEq, List.cons.injEq, and_true, true_and, List.getElem?_cons_zero, List.getElem?_cons_succ, Option.some.injEq, List.append_nil, exists_and_left, cxOf_K, false_and, and_false, exists_false, false_or, or_false, exists_eq', exists_const, sg_eq, S_eq, S_toList, S_ne, tFor_eq, tLc_eq, iList_eq, iTup_eq, iRng1_eq, iStr_eq, decide_eq_true_eq, Bool.not_eq_true', decide_eq_false_iff_not, if_true, if_false, Bool.false_eq_true, reduceCtorEq, Bool.true_eq_false, decide_true, decide_false, lit_121, lit_101_121, lit_114_121, lit_101, lit_101_101, lit_121_101, lit_111_101, lit_115, lit_120, lit_99_104, lit_115_104, lit_117_110, lit_111_119, lit_97_120, lit_97, lit_116_104, lit_104_101, lit_97_101_105_111_117_115_120_121_122_99_104_114_110_116, lit_97_98_99_100_101_102_103_104_105_106_107_108_109_110_111_112_113_114_115_116_117_118_119_120_121_122, lit_, start1_10]
  refine ⟨a, ns, rfl, hS, hn, fun b G H1 e1 B1 => ?_⟩
  refine ⟨(size_le (by simp only [List.length_cons, List.length_nil]; decide)), ?_⟩
  (intro p np; generalize hqp : upd _ p _ = H2; obtain ⟨G2, gp, e2, B2, f2⟩ := alB_ B1 np hqp; clear hqp np)
  refine take_ B2 (by decide) (by decide) fun r1 H3 hr1 B3 => ?_
  obtain ⟨cs, ecs, hcs, hcl⟩ : ∃ cs : Tx, atI [V.str (S [97, 101, 105, 111, 117, 115, 120, 121, 122, 99, 104, 114, 110, 116]), V.str (S [97, 98, 99, 100, 101, 102, 103, 104, 105, 106, 107, 108, 109, 110, 111, 112, 113, 114, 115, 116, 117, 118, 119, 120, 121, 122])] (r1 : Int) = some (.str (S cs)) ∧ (∀ c ∈ cs, letr c = true) ∧ 1 ≤ cs.length ∧ cs.length ≤ 100 := by
    match r1, hr1 with
    | 0, _ => exact ⟨_, rfl, by decide, by decide, by decide⟩
    | 1, _ => exact ⟨_, rfl, by decide, by decide, by decide⟩
    | n + 2, h => exact absurd h (by omega)
  simp only [tSeq, tAsg, tAnd, tOr, tNot, tTest, tB, tOp, tUn, tCB, tCons, tNil, tVar, tC, gName, rI0, rI, rU, rEq, rNe, rIxS, rIxL, rIxT, tRet, tRetN, tTup, tLst, tSl, tPart, tNoPart, rSlS, tIf, tNext, tDrop, tCall, tBM, tBM0, tAndV, tOrV, tNotV, tM0, tM1, gSub, rSetL, tMeth, tMake, tFld, tChain, tIsN, tNotN,
  List.set_cons_zero, List.set_cons_succ, exists_eq_left', exists_eq_left, exists_eq, V.int.injEq, V.str.injEq, V.bl.injEq, V.ref.injEq, List.cons.injEq, and_true, true_and, List.getElem?_cons_zero, List.getElem?_cons_succ, Option.some.injEq, List.append_nil, exists_and_left, cxOf_K, false_and, and_false, exists_false, false_or, or_false, exists_eq', exists_const, sg_eq, S_eq, S_toList, S_ne, tFor_eq, tLc_eq, iList_eq, iTup_eq, iRng1_eq, iStr_eq, decide_eq_true_eq, Bool.not_eq_true', decide_eq_false_iff_not, if_true, if_false, Bool.false_eq_true, reduceCtorEq, Bool.true_eq_false, decide_true, decide_false]
  refine ⟨_, sq_of (B3.ex _ _ f2), _, ecs, ?_⟩
  refine ⟨(size_le (by simp only [List.length_cons, List.length_nil]; decide)), ?_⟩
  (intro p2 np2; generalize hqp2 : upd _ p2 _ = H4; obtain ⟨G4, gp2, e4, B4, f4⟩ := alB_ B3 np2 hqp2; clear hqp2 np2)
  refine take_ B4 (by decide) (by decide) fun r2 H5 _ B5 => ⟨rfl, ?_⟩
  simp only [tSeq, tAsg, tAnd, tOr, tNot, tTest, tB, tOp, tUn, tCB, tCons, tNil, tVar, tC, gName, rI0, rI, rU, rEq, rNe, rIxS, rIxL, rIxT, tRet, tRetN, tTup, tLst, tSl, tPart, tNoPart, rSlS, tIf, tNext, tDrop, tCall, tBM, tBM0, tAndV, tOrV, tNotV, tM0, tM1, gSub, rSetL, tMeth, tMake, tFld, tChain, tIsN, tNotN,
  List.set_cons_zero, List.set_cons_succ, exists_eq_left', exists_eq_left, exists_eq, V.int.injEq, V.str.injEq, V.bl.injEq, V.ref.injEq, List.cons.injEq, and_true, true_and, List.getElem?_cons_zero, List.getElem?_cons_succ, Option.some.injEq, List.append_nil, exists_and_left, cxOf_K, false_and, and_false, exists_false, false_or, or_false, exists_eq', exists_const, sg_eq, S_eq, S_toList, S_ne, tFor_eq, tLc_eq, iList_eq, iTup_eq, iRng1_eq, iStr_eq, decide_eq_true_eq, Bool.not_eq_true', decide_eq_false_iff_not, if_true, if_false, Bool.false_eq_true, reduceCtorEq, Bool.true_eq_false, decide_true, decide_false]
  obtain ⟨n, hn0, hn1, eat⟩ : ∃ n : Int, 0 < n ∧ n < 17 ∧ atI [V.int 4, V.int 16] (if (r2 : Int) = 1 then 1 else 0) = some (.int n) := by
    split
    · exact ⟨16, by decide, by decide, rfl⟩
    · exact ⟨4, by decide, by decide, rfl⟩
  refine ⟨_, sq_of (B5.ex _ _ f4), _, eat, ?_⟩
  refine take_ B5 hn0 (by omega) fun r3 H6 hr3 B6 => ?_
  simp only [tSeq, tAsg, tAnd, tOr, tNot, tTest, tB, tOp, tUn, tCB, tCons, tNil, tVar, tC, gName, rI0, rI, rU, rEq, rNe, rIxS, rIxL, rIxT, tRet, tRetN, tTup, tLst, tSl, tPart, tNoPart, rSlS, tIf, tNext, tDrop, tCall, tBM, tBM0, tAndV, tOrV, tNotV, tM0, tM1, gSub, rSetL, tMeth, tMake, tFld, tChain, tIsN, tNotN,
  List.set_cons_zero, List.set_cons_succ, exists_eq_left', exists_eq_left, exists_eq, V.int.injEq, V.str.injEq, V.bl.injEq, V.ref.injEq, List.cons.injEq, and_true, true_and, List.getElem?_cons_zero, List.getElem?_cons_succ, Option.some.injEq, List.append_nil, exists_and_left, cxOf_K, false_and, and_false, exists_false, false_or, or_false, exists_eq', exists_const, sg_eq, S_eq, S_toList, S_ne, tFor_eq, tLc_eq, iList_eq, iTup_eq, iRng1_eq, iStr_eq, decide_eq_true_eq, Bool.not_eq_true', decide_eq_false_iff_not, if_true, if_false, Bool.false_eq_true, reduceCtorEq, Bool.true_eq_false, decide_true, decide_false]
  refine ⟨(size_le (by simp only [List.length_cons, List.length_nil]; decide)), ?_⟩
  (intro p3 np3; generalize hqp3 : upd _ p3 _ = H7; obtain ⟨G7, gp3, e7, B7, f7⟩ := alB_ B6 np3 hqp3; clear hqp3 np3)
  refine ⟨by omega, by omega, fun L hL => ?_⟩
  rw [Int.toNat_natCast]
  refine signs_draw (fun c => letr c = true) (by omega) B7 hL (fun _ => rfl) (fun i G' H' Q' _ _ B q => ?_) ?_
  · simp only [wipe, List.map_cons, List.map_nil, List.set_cons_succ, List.set_cons_zero, tSeq, tAsg, tAnd, tOr, tNot, tTest, tB, tOp, tUn, tCB, tCons, tNil, tVar, tC, gName, rI0, rI, rU, rEq, rNe, rIxS, rIxL, rIxT, tRet, tRetN, tTup, tLst, tSl, tPart, tNoPart, rSlS, tIf, tIfS, tNext, tDrop, tCall, tBM, tBM0, tAndV, tOrV, tNotV, tM0, tM1, gSub, rSetL, tMeth, tMake, tFld, tChain, tIsN, tNotN,
  List.set_cons_zero, List.set_cons_succ, exists_eq_left', exists_eq_left, exists_eq, V.int.injEq, V.str.injEq, V.bl.injEq, V.ref.injEq, List.cons.injEq, and_true, true_and, List.getElem?_cons_zero, List.getElem?_cons_succ, Option.some.injEq, List.append_nil, exists_and_left, cxOf_K, false_and, and_false, exists_false, false_or, or_false, exists_eq', exists_const, sg_eq, S_eq, S_toList, S_ne, tFor_eq, tLc_eq, iList_eq, iTup_eq, iRng1_eq, iStr_eq, decide_eq_true_eq, Bool.not_eq_true', decide_eq_false_iff_not, if_true, if_false, Bool.false_eq_true, reduceCtorEq, Bool.true_eq_false, decide_true, decide_false]
    refine ⟨size_le (by rw [S_len]; omega), take_ B (by rw [S_len]; omega) (by rw [S_len]; omega) fun r H4 hr B4 => ?_⟩
    rw [S_len] at hr
    simp only [tSeq, tAsg, tAnd, tOr, tNot, tTest, tB, tOp, tUn, tCB, tCons, tNil, tVar, tC, gName, rI0, rI, rU, rEq, rNe, rIxS, rIxL, rIxT, tRet, tRetN, tTup, tLst, tSl, tPart, tNoPart, rSlS, tIf, tIfS, tNext, tDrop, tCall, tBM, tBM0, tAndV, tOrV, tNotV, tM0, tM1, gSub, rSetL, tMeth, tMake, tFld, tChain, tIsN, tNotN,
  List.set_cons_zero, List.set_cons_succ, exists_eq_left', exists_eq_left, exists_eq, V.int.injEq, V.str.injEq, V.bl.injEq, V.ref.injEq, List.cons.injEq, and_true, true_and, List.getElem?_cons_zero, List.getElem?_cons_succ, Option.some.injEq, List.append_nil, exists_and_left, cxOf_K, false_and, and_false, exists_false, false_or, or_false, exists_eq', exists_const, sg_eq, S_eq, S_toList, S_ne, tFor_eq, tLc_eq, iList_eq, iTup_eq, iRng1_eq, iStr_eq, decide_eq_true_eq, Bool.not_eq_true', decide_eq_false_iff_not, if_true, if_false, Bool.false_eq_true, reduceCtorEq, Bool.true_eq_false, decide_true, decide_false]
    have h3 : r < cs.length := by omega
    exact ⟨size_le (by rw [S_len]; omega), _, atI_nat (List.getElem?_eq_getElem h3), q _ _ _ (Same.refl _) B4 (hcs _ (List.getElem_mem _))⟩
  intro t G8 H8 s8 B8 hl ht hp
  refine ⟨L, rfl, _, .inl (sq_of (B8.ex _ _ hl)), signs_size t (by omega), ?_⟩
  rw [join_signs]
  refine if_fin (fun σ' H' => ∃ t, σ' = [some (.ref a), some (.ref b), some (.str (S cs)), some (.int r3), some (.ref p3), some (.str (S t)), none, none, none, none] ∧ lword 20 t ∧ Bx b G8 H') ?_ ?_
  rotate_left
  · intro nx fin
    simp only [tSeq, tAsg, tAnd, tOr, tNot, tTest, tB, tOp, tUn, tCB, tCons, tNil, tVar, tC, gName, rI0, rI, rU, rEq, rNe, rIxS, rIxL, rIxT, tRet, tRetN, tTup, tLst, tSl, tPart, tNoPart, rSlS, tIf, tIfS, tNext, tDrop, tCall, tBM, tBM0, tAndV, tOrV, tNotV, tM0, tM1, gSub, rSetL, tMeth, tMake, tFld, tChain, tIsN, tNotN,
  List.set_cons_zero, List.set_cons_succ, exists_eq_left', exists_eq_left, exists_eq, V.int.injEq, V.str.injEq, V.bl.injEq, V.ref.injEq, List.cons.injEq, and_true, true_and, List.getElem?_cons_zero, List.getElem?_cons_succ, Option.some.injEq, List.append_nil, exists_and_left, cxOf_K, false_and, and_false, exists_false, false_or, or_false, exists_eq', exists_const, sg_eq, S_eq, S_toList, S_ne, tFor_eq, tLc_eq, iList_eq, iTup_eq, iRng1_eq, iStr_eq, decide_eq_true_eq, Bool.not_eq_true', decide_eq_false_iff_not, if_true, if_false, Bool.false_eq_true, reduceCtorEq, Bool.true_eq_false, decide_true, decide_false]
    have add : ∀ (H' : Hp) (r17 : Nat), (r17 : Int) < 17 → Bx b G8 H' → ∃ x, SqL K H' p3 x ∧ ∃ x_2, atI x (r17 : Int) = some x_2 ∧ ∃ x, x_2 = V.str x ∧ (cutS (S t) none (some 14)).length + x.length ≤ sizeLine ∧ nx [some (V.ref a), some (V.ref b), some (V.str (S cs)), some (V.int ↑r3), some (V.ref p3), some (V.str (cutS (S t) none (some 14) ++ x)), none, none, none, none] H' := by
      intro H' r17 h17 B'
      obtain ⟨e, ee, he1, he2, he3⟩ : ∃ e : Tx, atI [V.str (S [121]), V.str (S [101, 121]), V.str (S [114, 121]), V.str (S [101]), V.str (S [101, 101]), V.str (S [121, 101]), V.str (S [111, 101]), V.str (S [115]), V.str (S [120]), V.str (S [99, 104]), V.str (S [115, 104]), V.str (S [117, 110]), V.str (S [111, 119]), V.str (S [97, 120]), V.str (S [97]), V.str (S [116, 104]), V.str (S [104, 101])] (r17 : Int) = some (.str (S e)) ∧ 1 ≤ e.length ∧ e.length ≤ 2 ∧ ∀ c ∈ e, letr c = true := by
        match r17, h17 with
        | 0, _ => exact ⟨_, rfl, by decide, by decide, by decide⟩
        | 1, _ => exact ⟨_, rfl, by decide, by decide, by decide⟩
        | 2, _ => exact ⟨_, rfl, by decide, by decide, by decide⟩
        | 3, _ => exact ⟨_, rfl, by decide, by decide, by decide⟩
        | 4, _ => exact ⟨_, rfl, by decide, by decide, by decide⟩
        | 5, _ => exact ⟨_, rfl, by decide, by decide, by decide⟩
        | 6, _ => exact ⟨_, rfl, by decide, by decide, by decide⟩
        | 7, _ => exact ⟨_, rfl, by decide, by decide, by decide⟩
        | 8, _ => exact ⟨_, rfl, by decide, by decide, by decide⟩
        | 9, _ => exact ⟨_, rfl, by decide, by decide, by decide⟩
        | 10, _ => exact ⟨_, rfl, by decide, by decide, by decide⟩
        | 11, _ => exact ⟨_, rfl, by decide, by decide, by decide⟩
        | 12, _ => exact ⟨_, rfl, by decide, by decide, by decide⟩
        | 13, _ => exact ⟨_, rfl, by decide, by decide, by decide⟩
        | 14, _ => exact ⟨_, rfl, by decide, by decide, by decide⟩
        | 15, _ => exact ⟨_, rfl, by decide, by decide, by decide⟩
        | 16, _ => exact ⟨_, rfl, by decide, by decide, by decide⟩
        | n + 17, h => exact absurd h (by omega)
      have ct : cutS (S t) none (some 14) = S (t.take 14) := by
        rw [cutS_S]
        exact congrArg S (cutL_to t 14)
      have tl : (t.take 14).length ≤ 14 := by
        rw [List.length_take]
        omega
      refine ⟨_, sq_of (B'.ex _ _ (s8 _ _ f7)), _, ee, _, rfl, ?_, ?_⟩
      · rw [ct]
        exact size_le (by rw [S_len, S_len]; omega)
      rw [ct, S_cat]
      refine fin _ _ ⟨_, rfl, ⟨by rw [List.length_append]; omega, by rw [List.length_append]; omega, fun c hc => ?_⟩, B'⟩
      rcases List.mem_append.mp hc with h | h
      · exact hp c (List.mem_of_mem_take h)
      · exact he3 c h
    refine ⟨rfl, ite2 (fun h0 => ⟨size_le (by rw [S_len]; omega), take_ B8 (by decide) (by decide) fun r17 H9 h17 B9 => ?_⟩) (fun h0 => take_ B8 (by decide) (by decide) fun rr H9 _ B9 => ⟨rfl, ite2 (fun _ => ⟨size_le (by rw [S_len]; omega), take_ B9 (by decide) (by decide) fun r17 H10 h17 B10 => ?_⟩) (fun _ => ?_)⟩)⟩
    · obtain ⟨x, hx, q⟩ := add H9 r17 h17 B9
      exact ⟨x, _, rfl, hx, q⟩
    · obtain ⟨x, hx, q⟩ := add H10 r17 h17 B10
      exact ⟨x, _, rfl, hx, q⟩
    · refine fin _ _ ⟨_, rfl, ⟨?_, by omega, hp⟩, B9⟩
      have := List.length_pos_iff.mpr h0
      omega
  rintro σ H9 ⟨t, rfl, tk, B9⟩
  try simp only [tSeq, tAsg, tAnd, tOr, tNot, tTest, tB, tOp, tUn, tCB, tCons, tNil, tVar, tC, gName, rI0, rI, rU, rEq, rNe, rIxS, rIxL, rIxT, tRet, tRetN, tTup, tLst, tSl, tPart, tNoPart, rSlS, tIf, tNext, tDrop, tCall, tBM, tBM0, tAndV, tOrV, tNotV, tM0, tM1, gSub, rSetL, tMeth, tMake, tFld, tChain, tIsN, tNotN,
  List.set_cons_zero, List.set_cons_succ, exists_eq_left', exists_eq_left, exists_eq, V.int.injEq, V.str.injEq, V.bl.injEq, V.ref.injEq, List.cons.injEq, and_true, true_and, List.getElem?_cons_zero, List.getElem?_cons_succ, Option.some.injEq, List.append_nil, exists_and_left, cxOf_K, false_and, and_false, exists_false, false_or, or_false, exists_eq', exists_const, sg_eq, S_eq, S_toList, S_ne, tFor_eq, tLc_eq, iList_eq, iTup_eq, iRng1_eq, iStr_eq, decide_eq_true_eq, Bool.not_eq_true', decide_eq_false_iff_not, if_true, if_false, Bool.false_eq_true, reduceCtorEq, Bool.true_eq_false, decide_true, decide_false]
  refine take_ B9 (by decide) (by decide) fun r4 H10 hr4 B10 => ?_
  try simp only [tSeq, tAsg, tAnd, tOr, tNot, tTest, tB, tOp, tUn, tCB, tCons, tNil, tVar, tC, gName, rI0, rI, rU, rEq, rNe, rIxS, rIxL, rIxT, tRet, tRetN, tTup, tLst, tSl, tPart, tNoPart, rSlS, tIf, tNext, tDrop, tCall, tBM, tBM0, tAndV, tOrV, tNotV, tM0, tM1, gSub, rSetL, tMeth, tMake, tFld, tChain, tIsN, tNotN,
  List.set_cons_zero, List.set_cons_succ, exists_eq_left', exists_eq_left, exists_eq, V.int.injEq, V.str.injEq, V.bl.injEq, V.ref.injEq, List.cons.injEq, and_true, true_and, List.getElem?_cons_zero, List.getElem?_cons_succ, Option.some.injEq, List.append_nil, exists_and_left, cxOf_K, false_and, and_false, exists_false, false_or, or_false, exists_eq', exists_const, sg_eq, S_eq, S_toList, S_ne, tFor_eq, tLc_eq, iList_eq, iTup_eq, iRng1_eq, iStr_eq, decide_eq_true_eq, Bool.not_eq_true', decide_eq_false_iff_not, if_true, if_false, Bool.false_eq_true, reduceCtorEq, Bool.true_eq_false, decide_true, decide_false]
  refine if_fin (fun σ' H' => ∃ t, σ' = [some (.ref a), some (.ref b), some (.str (S cs)), some (.int r3), some (.ref p3), some (.str (S t)), some (.int r4), none, none, none] ∧ lword 20 t ∧ Bx b G8 H') ?_ ?_
  rotate_left
  · intro nx fin
    simp only [tSeq, tAsg, tAnd, tOr, tNot, tTest, tB, tOp, tUn, tCB, tCons, tNil, tVar, tC, gName, rI0, rI, rU, rEq, rNe, rIxS, rIxL, rIxT, tRet, tRetN, tTup, tLst, tSl, tPart, tNoPart, rSlS, tIf, tIfS, tNext, tDrop, tCall, tBM, tBM0, tAndV, tOrV, tNotV, tM0, tM1, gSub, rSetL, tMeth, tMake, tFld, tChain, tIsN, tNotN,
  List.set_cons_zero, List.set_cons_succ, exists_eq_left', exists_eq_left, exists_eq, V.int.injEq, V.str.injEq, V.bl.injEq, V.ref.injEq, List.cons.injEq, and_true, true_and, List.getElem?_cons_zero, List.getElem?_cons_succ, Option.some.injEq, List.append_nil, exists_and_left, cxOf_K, false_and, and_false, exists_false, false_or, or_false, exists_eq', exists_const, sg_eq, S_eq, S_toList, S_ne, tFor_eq, tLc_eq, iList_eq, iTup_eq, iRng1_eq, iStr_eq, decide_eq_true_eq, Bool.not_eq_true', decide_eq_false_iff_not, if_true, if_false, Bool.false_eq_true, reduceCtorEq, Bool.true_eq_false, decide_true, decide_false]
    refine ⟨rfl, ite2 (fun h1 => ?_) (fun h1 => fin _ _ ⟨_, rfl, tk, B10⟩)⟩
    match t, tk with
    | c :: t', tk =>
      have cl : letr c = true := tk.2.2 c List.mem_cons_self
      have hl := tk.2.1
      rw [List.length_cons] at hl
      have eu : Txt.upper (S [c]) = S [PyProof.Rows.up1 c] := SX.upper_S (all_asc fun x hx => by
        rw [List.mem_singleton.mp hx]
        exact letr_lt cl)
      have ct : cutS (S (c :: t')) (some 1) none = S t' := by
        rw [cutS_S]
        exact congrArg S (cutL_from (c :: t') 1)
      refine ⟨(size_le (by (try simp only [S_len, List.length_append, List.length_cons, List.length_nil]); omega)), c, atI_nat (j := 0) rfl, ?_⟩
      rw [eu, ct, S_cat]
      refine ⟨Nat.le_trans (by rw [S_len]; simp : (S [c]).length ≤ 1) (by decide), (size_le (by (try simp only [S_len, List.length_append, List.length_cons, List.length_nil]); omega)), (size_le (by (try simp only [S_len, List.length_append, List.length_cons, List.length_nil]); omega)), fin _ _ ⟨_, rfl, ⟨by simp, by simp; omega, fun x hx => ?_⟩, B10⟩⟩
      rcases List.mem_append.mp hx with h | h
      · rw [List.mem_singleton.mp h]
        exact letr_up c (letr_lt cl) cl
      · exact tk.2.2 x (List.mem_cons_of_mem _ h)
  rintro σ H11 ⟨t2, rfl, tk2, B11⟩
  try simp only [tSeq, tAsg, tAnd, tOr, tNot, tTest, tB, tOp, tUn, tCB, tCons, tNil, tVar, tC, gName, rI0, rI, rU, rEq, rNe, rIxS, rIxL, rIxT, tRet, tRetN, tTup, tLst, tSl, tPart, tNoPart, rSlS, tIf, tNext, tDrop, tCall, tBM, tBM0, tAndV, tOrV, tNotV, tM0, tM1, gSub, rSetL, tMeth, tMake, tFld, tChain, tIsN, tNotN,
  List.set_cons_zero, List.set_cons_succ, exists_eq_left', exists_eq_left, exists_eq, V.int.injEq, V.str.injEq, V.bl.injEq, V.ref.injEq, List.cons.injEq, and_true, true_and, List.getElem?_cons_zero, List.getElem?_cons_succ, Option.some.injEq, List.append_nil, exists_and_left, cxOf_K, false_and, and_false, exists_false, false_or, or_false, exists_eq', exists_const, sg_eq, S_eq, S_toList, S_ne, tFor_eq, tLc_eq, iList_eq, iTup_eq, iRng1_eq, iStr_eq, decide_eq_true_eq, Bool.not_eq_true', decide_eq_false_iff_not, if_true, if_false, Bool.false_eq_true, reduceCtorEq, Bool.true_eq_false, decide_true, decide_false]
  refine if_fin (fun σ' H' => ∃ t, σ' = [some (.ref a), some (.ref b), some (.str (S cs)), some (.int r3), some (.ref p3), some (.str (S t)), some (.int r4), none, none, none] ∧ lword 20 t ∧ Bx b G8 H') ?_ ?_
  rotate_left
  · intro nx fin
    simp only [tSeq, tAsg, tAnd, tOr, tNot, tTest, tB, tOp, tUn, tCB, tCons, tNil, tVar, tC, gName, rI0, rI, rU, rEq, rNe, rIxS, rIxL, rIxT, tRet, tRetN, tTup, tLst, tSl, tPart, tNoPart, rSlS, tIf, tIfS, tNext, tDrop, tCall, tBM, tBM0, tAndV, tOrV, tNotV, tM0, tM1, gSub, rSetL, tMeth, tMake, tFld, tChain, tIsN, tNotN,
  List.set_cons_zero, List.set_cons_succ, exists_eq_left', exists_eq_left, exists_eq, V.int.injEq, V.str.injEq, V.bl.injEq, V.ref.injEq, List.cons.injEq, and_true, true_and, List.getElem?_cons_zero, List.getElem?_cons_succ, Option.some.injEq, List.append_nil, exists_and_left, cxOf_K, false_and, and_false, exists_false, false_or, or_false, exists_eq', exists_const, sg_eq, S_eq, S_toList, S_ne, tFor_eq, tLc_eq, iList_eq, iTup_eq, iRng1_eq, iStr_eq, decide_eq_true_eq, Bool.not_eq_true', decide_eq_false_iff_not, if_true, if_false, Bool.false_eq_true, reduceCtorEq, Bool.true_eq_false, decide_true, decide_false]
    refine ⟨rfl, ite2 (fun h1 => ?_) (fun h1 => fin _ _ ⟨_, rfl, tk2, B11⟩)⟩
    have eu : Txt.upper (S t2) = S (t2.map PyProof.Rows.up1) := SX.upper_S (all_asc tk2.asc)
    have hl := tk2.2.1
    rw [eu]
    refine ⟨Nat.le_trans (by rw [S_len]; omega : (S t2).length ≤ 100) (by decide), fin _ _ ⟨_, rfl, ⟨by rw [List.length_map]; exact tk2.1, by rw [List.length_map]; exact tk2.2.1, fun x hx => ?_⟩, B11⟩⟩
    obtain ⟨c, hc, rfl⟩ := List.mem_map.mp hx
    exact letr_up c (letr_lt (tk2.2.2 c hc)) (tk2.2.2 c hc)
  rintro σ H12 ⟨t3, rfl, tk3, B12⟩
  try simp only [tSeq, tAsg, tAnd, tOr, tNot, tTest, tB, tOp, tUn, tCB, tCons, tNil, tVar, tC, gName, rI0, rI, rU, rEq, rNe, rIxS, rIxL, rIxT, tRet, tRetN, tTup, tLst, tSl, tPart, tNoPart, rSlS, tIf, tNext, tDrop, tCall, tBM, tBM0, tAndV, tOrV, tNotV, tM0, tM1, gSub, rSetL, tMeth, tMake, tFld, tChain, tIsN, tNotN,
  List.set_cons_zero, List.set_cons_succ, exists_eq_left', exists_eq_left, exists_eq, V.int.injEq, V.str.injEq, V.bl.injEq, V.ref.injEq, List.cons.injEq, and_true, true_and, List.getElem?_cons_zero, List.getElem?_cons_succ, Option.some.injEq, List.append_nil, exists_and_left, cxOf_K, false_and, and_false, exists_false, false_or, or_false, exists_eq', exists_const, sg_eq, S_eq, S_toList, S_ne, tFor_eq, tLc_eq, iList_eq, iTup_eq, iRng1_eq, iStr_eq, decide_eq_true_eq, Bool.not_eq_true', decide_eq_false_iff_not, if_true, if_false, Bool.false_eq_true, reduceCtorEq, Bool.true_eq_false, decide_true, decide_false]
  refine ending_ B12 fun en H13 hen B13 => ?_
  try simp only [tSeq, tAsg, tAnd, tOr, tNot, tTest, tB, tOp, tUn, tCB, tCons, tNil, tVar, tC, gName, rI0, rI, rU, rEq, rNe, rIxS, rIxL, rIxT, tRet, tRetN, tTup, tLst, tSl, tPart, tNoPart, rSlS, tIf, tNext, tDrop, tCall, tBM, tBM0, tAndV, tOrV, tNotV, tM0, tM1, gSub, rSetL, tMeth, tMake, tFld, tChain, tIsN, tNotN,
  List.set_cons_zero, List.set_cons_succ, exists_eq_left', exists_eq_left, exists_eq, V.int.injEq, V.str.injEq, V.bl.injEq, V.ref.injEq, List.cons.injEq, and_true, true_and, List.getElem?_cons_zero, List.getElem?_cons_succ, Option.some.injEq, List.append_nil, exists_and_left, cxOf_K, false_and, and_false, exists_false, false_or, or_false, exists_eq', exists_const, sg_eq, S_eq, S_toList, S_ne, tFor_eq, tLc_eq, iList_eq, iTup_eq, iRng1_eq, iStr_eq, decide_eq_true_eq, Bool.not_eq_true', decide_eq_false_iff_not, if_true, if_false, Bool.false_eq_true, reduceCtorEq, Bool.true_eq_false, decide_true, decide_false]
  refine if_fin (fun σ' H' => ∃ f r, σ' = [some (.ref a), some (.ref b), some (.str (S cs)), some (.int r3), some (.ref p3), some (.str (S t3)), some (.int r4), some (.str (S (f :: r))), none, none] ∧ small f = true ∧ r.length ≤ 17 ∧ Bx b G8 H') ?_ ?_
  rotate_left
  · intro nx fin
    simp only [tSeq, tAsg, tAnd, tOr, tNot, tTest, tB, tOp, tUn, tCB, tCons, tNil, tVar, tC, gName, rI0, rI, rU, rEq, rNe, rIxS, rIxL, rIxT, tRet, tRetN, tTup, tLst, tSl, tPart, tNoPart, rSlS, tIf, tIfS, tNext, tDrop, tCall, tBM, tBM0, tAndV, tOrV, tNotV, tM0, tM1, gSub, rSetL, tMeth, tMake, tFld, tChain, tIsN, tNotN,
  List.set_cons_zero, List.set_cons_succ, exists_eq_left', exists_eq_left, exists_eq, V.int.injEq, V.str.injEq, V.bl.injEq, V.ref.injEq, List.cons.injEq, and_true, true_and, List.getElem?_cons_zero, List.getElem?_cons_succ, Option.some.injEq, List.append_nil, exists_and_left, cxOf_K, false_and, and_false, exists_false, false_or, or_false, exists_eq', exists_const, sg_eq, S_eq, S_toList, S_ne, tFor_eq, tLc_eq, iList_eq, iTup_eq, iRng1_eq, iStr_eq, decide_eq_true_eq, Bool.not_eq_true', decide_eq_false_iff_not, if_true, if_false, Bool.false_eq_true, reduceCtorEq, Bool.true_eq_false, decide_true, decide_false]
    have h16 := hen.2.1
    match en, hen with
    | c :: en', hen =>
      rw [List.length_cons] at h16
      refine ⟨(size_le (by (try simp only [S_len, List.length_append, List.length_cons, List.length_nil]); omega)), c, atI_nat (j := 0) rfl, c, rfl, _, rfl, ?_⟩
      cases hc : small c with
      | false =>
        simp only [if_true]
        rw [S_cat]
        exact ⟨(size_le (by (try simp only [S_len, List.length_append, List.length_cons, List.length_nil]); omega)), fin _ _ ⟨115, c :: en', rfl, by decide, by rw [List.length_cons]; omega, B13⟩⟩
      | true =>
        simp only [Bool.true_eq_false, if_false]
        exact fin _ _ ⟨c, en', rfl, hc, by omega, B13⟩
  rintro σ H14 ⟨f, r, rfl, hf, hrl, B14⟩
  try simp only [tSeq, tAsg, tAnd, tOr, tNot, tTest, tB, tOp, tUn, tCB, tCons, tNil, tVar, tC, gName, rI0, rI, rU, rEq, rNe, rIxS, rIxL, rIxT, tRet, tRetN, tTup, tLst, tSl, tPart, tNoPart, rSlS, tIf, tNext, tDrop, tCall, tBM, tBM0, tAndV, tOrV, tNotV, tM0, tM1, gSub, rSetL, tMeth, tMake, tFld, tChain, tIsN, tNotN,
  List.set_cons_zero, List.set_cons_succ, exists_eq_left', exists_eq_left, exists_eq, V.int.injEq, V.str.injEq, V.bl.injEq, V.ref.injEq, List.cons.injEq, and_true, true_and, List.getElem?_cons_zero, List.getElem?_cons_succ, Option.some.injEq, List.append_nil, exists_and_left, cxOf_K, false_and, and_false, exists_false, false_or, or_false, exists_eq', exists_const, sg_eq, S_eq, S_toList, S_ne, tFor_eq, tLc_eq, iList_eq, iTup_eq, iRng1_eq, iStr_eq, decide_eq_true_eq, Bool.not_eq_true', decide_eq_false_iff_not, if_true, if_false, Bool.false_eq_true, reduceCtorEq, Bool.true_eq_false, decide_true, decide_false]
  obtain ⟨u, d, rfl⟩ : ∃ u d, t3 = u ++ [d] := by
    rcases List.eq_nil_or_concat t3 with h | ⟨u, d, h⟩
    · exact absurd tk3.1 (by rw [h]; decide)
    · exact ⟨u, d, h.trans List.concat_eq_append⟩
  have ul := tk3.2.1
  rw [List.length_append, List.length_singleton] at ul
  have jp : jPre u d f r := ⟨by omega, by omega, fun c hc => tk3.2.2 c (List.mem_append_left _ hc), tk3.2.2 d (List.mem_append_right _ List.mem_cons_self), hf⟩
  refine ⟨u, d, f, r, rfl, jp, fun H15 s15 => ?_⟩
  simp only [tSeq, tAsg, tAnd, tOr, tNot, tTest, tB, tOp, tUn, tCB, tCons, tNil, tVar, tC, gName, rI0, rI, rU, rEq, rNe, rIxS, rIxL, rIxT, tRet, tRetN, tTup, tLst, tSl, tPart, tNoPart, rSlS, tIf, tIfS, tNext, tDrop, tCall, tBM, tBM0, tAndV, tOrV, tNotV, tM0, tM1, gSub, rSetL, tMeth, tMake, tFld, tChain, tIsN, tNotN,
  List.set_cons_zero, List.set_cons_succ, exists_eq_left', exists_eq_left, exists_eq, V.int.injEq, V.str.injEq, V.bl.injEq, V.ref.injEq, List.cons.injEq, and_true, true_and, List.getElem?_cons_zero, List.getElem?_cons_succ, Option.some.injEq, List.append_nil, exists_and_left, cxOf_K, false_and, and_false, exists_false, false_or, or_false, exists_eq', exists_const, sg_eq, S_eq, S_toList, S_ne, tFor_eq, tLc_eq, iList_eq, iTup_eq, iRng1_eq, iStr_eq, decide_eq_true_eq, Bool.not_eq_true', decide_eq_false_iff_not, if_true, if_false, Bool.false_eq_true, reduceCtorEq, Bool.true_eq_false, decide_true, decide_false]
  refine isi (d := .str (S (jo u d f r))) (.str _) rfl ⟨_, rfl, ?_⟩
  rw [if_pos rfl]
  refine ⟨u, d, f, r, rfl, jp, fun H16 _ => ⟨rfl, ?_⟩⟩
  rw [decide_eq_true rfl]
  exact k _
end
def d_l_begun : He.DefD := ⟨("_law_begun", none), "_law_begun", "_law_begun", defArgs s_l_begun, defBody s_l_begun, defScope s_l_begun, [], []⟩
def d_l_take : He.DefD := ⟨("_law_take", none), "_law_take", "_law_take", defArgs s_l_take, defBody s_l_take, defScope s_l_take, [], []⟩
def d_l_word : He.DefD := ⟨("_law_word", none), "_law_word", "_law_word", defArgs s_l_word, defBody s_l_word, defScope s_l_word, [], []⟩
def d_l_ending : He.DefD := ⟨("_law_ending", none), "_law_ending", "_law_ending", defArgs s_l_ending, defBody s_l_ending, defScope s_l_ending, [], []⟩
def d_l_small : He.DefD := ⟨("_law_small", none), "_law_small", "_law_small", defArgs s_l_small, defBody s_l_small, defScope s_l_small, [], []⟩
def d_is_consonant : He.DefD := ⟨("is_consonant", none), "is_consonant", "is_consonant", defArgs s_is_consonant, defBody s_is_consonant, defScope s_is_consonant, [], []⟩
def d_is_short : He.DefD := ⟨("is_short", none), "is_short", "is_short", defArgs s_is_short, defBody s_is_short, defScope s_is_short, [], []⟩
def d_joined : He.DefD := ⟨("joined", none), "joined", "joined", defArgs s_joined, defBody s_joined, defScope s_joined, [], []⟩
def d_l_joined : He.DefD := ⟨("_law_joined", none), "_law_joined", "_law_joined", defArgs s_l_joined, defBody s_l_joined, defScope s_l_joined, [], []⟩
def d_law : He.DefD := ⟨("law", none), "law", "law", defArgs s_law, defBody s_law, defScope s_law, [], []⟩
def fn : List He.DefD := [d_l_begun, d_l_take, d_l_word, d_l_ending, d_l_small, d_is_consonant, d_is_short, d_joined, d_l_joined, d_law]
def fa : List He.Fa := [.glo "_law_begun", .glo "_law_take", .glo "_law_word", .glo "_law_ending", .glo "_law_small", .glo "is_consonant", .glo "is_short", .glo "joined", .glo "_law_joined", .glo "law", .free "int", .free "isinstance", .free "len", .free "list", .free "range", .free "str", .str "LETTERS" (S [97, 98, 99, 100, 101, 102, 103, 104, 105, 106, 107, 108, 109, 110, 111, 112, 113, 114, 115, 116, 117, 118, 119, 120, 121, 122]), .str "VOWELS" (S [97, 101, 105, 111, 117])]
abbrev R : PySem.W.OpenRow := PySem.W.OpenLaw.row PySem.Challenge.rw_chords_k05_endings
def exb (K : PySem.W.Frag) : Bool := true
abbrev hk : PySem.W.Hook := He.hookX 5 fa fn [] [] exb
def ob (s : PySem.W.SharedT) : He.AlX := He.obsX 5 fa fn [] [] exb (HandSHeadRun.getT s)
theorem ob_eq (s : PySem.W.SharedT) : ob s = hk.obs s.abs := He.obsX_eq (HandSHeadRun.getT_eq s)
theorem run (w : World) : HandSHeadRun.RunEq R (PySem.W.view R.prog [15]) hk ob 4000 ["is_consonant", "is_short", "joined", "_law_begun", "_law_take", "_law_word", "_law_ending", "_law_action", "_law_entry", "_law_small", "_law_joined", "VOWELS", "LETTERS"] w := by
  intro os
  kernel_rfl
theorem facts {P : Program} {w : World} {K : PySem.W.Frag} {h : Heap} {mg : Str → Option Value} {f : Addr} (X : K.In h) (G : h.Ns mainGlobals mg) (hfa : mg ("law" : Str) = some (.ref f)) (c : He.SaysX fa fn [] [] exb w h K) :
    ∃ fd : FuncData, (∀ (s : Shared) (v : Value), BindsTo s fd ⟨[v], []⟩ [("_law_script", v)]) ∧ ∀ base : Heap, K.In base → base.Ns mainGlobals mg → FnOk P w K mg base CX0 20 f fd ["_law_script"] (sp_law K) := by
  have e := hfa.symm.trans (He.glo_ok X G (c.t.d.fact 9 (f := .glo "law") rfl))
  cases e
  obtain ⟨fd_l_begun, F_l_begun⟩ : ∃ fd, FunS K "_law_begun" s_l_begun (He.ga K "_law_begun") fd := c.t.d.def_ 0 (d := d_l_begun) rfl
  have m_l_begun : mg "_law_begun" = some (.ref _) := He.glo_ok X G (c.t.d.fact 0 (f := .glo "_law_begun") rfl)
  have n_l_begun := FunD.bindsN (ps := ["_law_script"]) F_l_begun fun _ _ _ _ _ _ us hl => match us, hl with | [_], _ => rfl
  obtain ⟨fd_l_take, F_l_take⟩ : ∃ fd, FunS K "_law_take" s_l_take (He.ga K "_law_take") fd := c.t.d.def_ 1 (d := d_l_take) rfl
  have m_l_take : mg "_law_take" = some (.ref _) := He.glo_ok X G (c.t.d.fact 1 (f := .glo "_law_take") rfl)
  have n_l_take := FunD.bindsN (ps := ["_law_box", "_law_many"]) F_l_take fun _ _ _ _ _ _ us hl => match us, hl with | [_, _], _ => rfl
  obtain ⟨fd_l_word, F_l_word⟩ : ∃ fd, FunS K "_law_word" s_l_word (He.ga K "_law_word") fd := c.t.d.def_ 2 (d := d_l_word) rfl
  have m_l_word : mg "_law_word" = some (.ref _) := He.glo_ok X G (c.t.d.fact 2 (f := .glo "_law_word") rfl)
  have n_l_word := FunD.bindsN (ps := ["_law_box"]) F_l_word fun _ _ _ _ _ _ us hl => match us, hl with | [_], _ => rfl
  obtain ⟨fd_l_ending, F_l_ending⟩ : ∃ fd, FunS K "_law_ending" s_l_ending (He.ga K "_law_ending") fd := c.t.d.def_ 3 (d := d_l_ending) rfl
  have m_l_ending : mg "_law_ending" = some (.ref _) := He.glo_ok X G (c.t.d.fact 3 (f := .glo "_law_ending") rfl)
  have n_l_ending := FunD.bindsN (ps := ["_law_box"]) F_l_ending fun _ _ _ _ _ _ us hl => match us, hl with | [_], _ => rfl
  obtain ⟨fd_l_small, F_l_small⟩ : ∃ fd, FunS K "_law_small" s_l_small (He.ga K "_law_small") fd := c.t.d.def_ 4 (d := d_l_small) rfl
  have m_l_small : mg "_law_small" = some (.ref _) := He.glo_ok X G (c.t.d.fact 4 (f := .glo "_law_small") rfl)
  have n_l_small := FunD.bindsN (ps := ["_law_sign"]) F_l_small fun _ _ _ _ _ _ us hl => match us, hl with | [_], _ => rfl
  obtain ⟨fd_is_consonant, F_is_consonant⟩ : ∃ fd, FunS K "is_consonant" s_is_consonant (He.ga K "is_consonant") fd := c.t.d.def_ 5 (d := d_is_consonant) rfl
  have m_is_consonant : mg "is_consonant" = some (.ref _) := He.glo_ok X G (c.t.d.fact 5 (f := .glo "is_consonant") rfl)
  have n_is_consonant := FunD.bindsN (ps := ["sign"]) F_is_consonant fun _ _ _ _ _ _ us hl => match us, hl with | [_], _ => rfl
  obtain ⟨fd_is_short, F_is_short⟩ : ∃ fd, FunS K "is_short" s_is_short (He.ga K "is_short") fd := c.t.d.def_ 6 (d := d_is_short) rfl
  have m_is_short : mg "is_short" = some (.ref _) := He.glo_ok X G (c.t.d.fact 6 (f := .glo "is_short") rfl)
  have n_is_short := FunD.bindsN (ps := ["word"]) F_is_short fun _ _ _ _ _ _ us hl => match us, hl with | [_], _ => rfl
  obtain ⟨fd_joined, F_joined⟩ : ∃ fd, FunS K "joined" s_joined (He.ga K "joined") fd := c.t.d.def_ 7 (d := d_joined) rfl
  have m_joined : mg "joined" = some (.ref _) := He.glo_ok X G (c.t.d.fact 7 (f := .glo "joined") rfl)
  have n_joined := FunD.bindsN (ps := ["word", "ending"]) F_joined fun _ _ _ _ _ _ us hl => match us, hl with | [_, _], _ => rfl
  obtain ⟨fd_l_joined, F_l_joined⟩ : ∃ fd, FunS K "_law_joined" s_l_joined (He.ga K "_law_joined") fd := c.t.d.def_ 8 (d := d_l_joined) rfl
  have m_l_joined : mg "_law_joined" = some (.ref _) := He.glo_ok X G (c.t.d.fact 8 (f := .glo "_law_joined") rfl)
  have n_l_joined := FunD.bindsN (ps := ["_law_word_here", "_law_ending_here"]) F_l_joined fun _ _ _ _ _ _ us hl => match us, hl with | [_, _], _ => rfl
  obtain ⟨fd_law, F_law⟩ : ∃ fd, FunS K "law" s_law (He.ga K "law") fd := c.t.d.def_ 9 (d := d_law) rfl
  have n_law := FunD.bindsA (ps := ["_law_script"]) F_law fun _ _ _ _ _ _ us hl => match us, hl with | [_], _ => rfl
  have b_int : mg "int" = none := He.free_ok X G (c.t.d.fact 10 (f := .free "int") rfl)
  have b_isinstance : mg "isinstance" = none := He.free_ok X G (c.t.d.fact 11 (f := .free "isinstance") rfl)
  have b_len : mg "len" = none := He.free_ok X G (c.t.d.fact 12 (f := .free "len") rfl)
  have b_list : mg "list" = none := He.free_ok X G (c.t.d.fact 13 (f := .free "list") rfl)
  have b_range : mg "range" = none := He.free_ok X G (c.t.d.fact 14 (f := .free "range") rfl)
  have b_str : mg "str" = none := He.free_ok X G (c.t.d.fact 15 (f := .free "str") rfl)
  have g_LETTERS : ∃ u, mg "LETTERS" = some u ∧ RelV (.str (S [97, 98, 99, 100, 101, 102, 103, 104, 105, 106, 107, 108, 109, 110, 111, 112, 113, 114, 115, 116, 117, 118, 119, 120, 121, 122])) u := by
    obtain ⟨t, e⟩ := He.str_ok X G (c.t.d.fact 16 (f := .str "LETTERS" (S [97, 98, 99, 100, 101, 102, 103, 104, 105, 106, 107, 108, 109, 110, 111, 112, 113, 114, 115, 116, 117, 118, 119, 120, 121, 122])) rfl)
    exact ⟨_, e, _, rfl⟩
  have g_VOWELS : ∃ u, mg "VOWELS" = some u ∧ RelV (.str (S [97, 101, 105, 111, 117])) u := by
    obtain ⟨t, e⟩ := He.str_ok X G (c.t.d.fact 17 (f := .str "VOWELS" (S [97, 101, 105, 111, 117])) rfl)
    exact ⟨_, e, _, rfl⟩
  refine ⟨fd_law, fun s v => n_law s [v] rfl, fun base _ _ => ?_⟩
  have c_l_begun : Cal P w K mg base CX0 1 "_law_begun" (sp_begun K) := cal_of F_l_begun (ok_begun F_l_begun (b_int := b_int) (b_len := b_len) (b_list := b_list)) m_l_begun n_l_begun
  have c_l_take : Cal P w K mg base CX0 1 "_law_take" sp_take := cal_of F_l_take (ok_take F_l_take ) m_l_take n_l_take
  have c_l_word : Cal P w K mg base CX0 2 "_law_word" sp_word := cal_of F_l_word (ok_word F_l_word (b_len := b_len) (b_range := b_range) (c_l_take := c_l_take)) m_l_word n_l_word
  have c_l_ending : Cal P w K mg base CX0 3 "_law_ending" sp_ending := cal_of F_l_ending (ok_ending F_l_ending (b_int := b_int) (c_l_take := c_l_take) (c_l_word := c_l_word)) m_l_ending n_l_ending
  have c_l_small : Cal P w K mg base CX0 1 "_law_small" sp_small := cal_of F_l_small (ok_small F_l_small ) m_l_small n_l_small
  have c_is_consonant : Cal P w K mg base CX0 1 "is_consonant" sp_consonant := cal_of F_is_consonant (ok_consonant F_is_consonant (g_LETTERS := g_LETTERS) (g_VOWELS := g_VOWELS)) m_is_consonant n_is_consonant
  have c_is_short : Cal P w K mg base CX0 2 "is_short" sp_short := cal_of F_is_short (ok_short F_is_short (b_len := b_len) (c_is_consonant := c_is_consonant) (g_VOWELS := g_VOWELS)) m_is_short n_is_short
  have c_joined : Cal P w K mg base CX0 3 "joined" sp_joined := cal_of F_joined (ok_joined F_joined (c_is_consonant := c_is_consonant) (c_is_short := c_is_short) (g_LETTERS := g_LETTERS) (g_VOWELS := g_VOWELS)) m_joined n_joined
  have c_l_joined : Cal P w K mg base CX0 2 "_law_joined" sp_ljoined := cal_of F_l_joined (ok_ljoined F_l_joined (b_int := b_int) (b_len := b_len) (b_range := b_range) (c_l_small := c_l_small)) m_l_joined n_l_joined
  exact FnOk.mono (ok_law F_law (b_int := b_int) (b_isinstance := b_isinstance) (b_len := b_len) (b_range := b_range) (b_str := b_str) (c_l_begun := c_l_begun) (c_l_take := c_l_take) (c_l_ending := c_l_ending) (c_l_small := c_l_small) (c_joined := c_joined) (c_l_joined := c_l_joined)) (by decide)
end Ch
open PySem PySem.W PySem.Calls PyProof.Rows
set_option maxHeartbeats 0 in
theorem PySem.Challenge.cw_chords_k05_endings_holds : PySem.Challenge.rw_chords_k05_endings.Holds := by
  w_on; o_law
  refine HandSHeadRun.head_any (r := OpenLaw.row PySem.Challenge.rw_chords_k05_endings) (q := view (OpenLaw.row PySem.Challenge.rw_chords_k05_endings).prog [15]) (H := Ch.hk) (ob := Ch.ob) (M := 4000) (loose := ["is_consonant", "is_short", "joined", "_law_begun", "_law_take", "_law_word", "_law_ending", "_law_action", "_law_entry", "_law_small", "_law_joined", "VOWELS", "LETTERS"]) (d := HandSHeadRun.topDef (OpenLaw.row PySem.Challenge.rw_chords_k05_endings).prog 15) (kwd := []) Ch.ob_eq
    (by kernel_rfl) (fun s => by kernel_rfl) Ch.run (by kernel_rfl) (by kernel_rfl) (by kernel_rfl) (by rfl) (by first | assumption | decide +kernel) (by decide +kernel) ⟨rfl, rfl, rfl, rfl, rfl, by decide +kernel⟩ ?hw ?hc
  case hw => w_witness2
  case hc =>
    refine L2.walk_ofE (l := PySem.Challenge.rw_chords_k05_endings) (n := 63) (k := 20) (x := "_law_script") (CX := L2.CX0) rfl (by decide) (by kernel_rfl) ⟨rfl, by decide, by decide⟩ ?F (fun _ _ _ _ z => z)
    intro w mg fa h Y G hmg0
    obtain ⟨K, KX, c⟩ := Y
    have hmg : mg ("law" : PySem.Str) = some (.ref fa) := by
      have e : (HandSHeadRun.topDef (OpenLaw.row PySem.Challenge.rw_chords_k05_endings).prog 15).name = ("law" : PySem.Str) := by kernel_rfl
      rw [← e]
      exact hmg0
    obtain ⟨fd, hb, hF⟩ := Ch.facts (P := (PySem.Challenge.rw_chords_k05_endings).prog) (w := w) KX G hmg c
    exact ⟨K, fd, Ch.sp_law K, KX, hb, fun H a ns hl _ hS => ⟨a, ns, rfl, hS, hl, fun _ => rfl⟩, hF⟩
#print axioms PySem.Challenge.cw_chords_k05_endings_holds
