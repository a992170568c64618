import PyProof.Rows.All
import Wide.All
import OpenK.AllK
import Wide.FinOn
import KE.KStateDown
import HandS.ForMost
import HandS.ForSpec
import HandS.Codes
import HandS.IsInst
import HandS.Defaults
import HandS.TupAny
import HandS.Deep
import HandS.Conv
import HandS.TupLen
import HandS.Head0
import HandS.Head1
import HandS.Head2
import HandS.HeadEnd
import HandS.HeadHook1
import HandS.HeadHook2
import HandS.HeadHook3
import HandS.HeadHook4
import PySem.Challenge.RW_chords_k09_shown
set_option Elab.async false
set_option linter.all false
set_option maxRecDepth 100000
set_option maxHeartbeats 2000000
namespace Ch
open PySem PySem.Spec PyProof.Rows L2
def top (i : Nat) : Stmt := PySem.Challenge.pw_chords_k09_shown.main.body.getD i (.Pass ⟨0, 0, 0, 0⟩)
/-! ### texts as lists of signs -/
abbrev S := SX.S
abbrev Tx := List Nat
theorem S_inj {a b : Tx} (h : S a = S b) : a = b := SX.S_inj h
theorem S_len (a : Tx) : (S a).length = a.length := SX.S_len a
theorem S_cat (a b : Tx) : S a ++ S b = S (a ++ b) := SX.S_cat a b
theorem str_inj {a b : Tx} : V.str (S a) = V.str (S b) ↔ a = b := ⟨fun h => S_inj (V.str.inj h), fun h => by rw [h]⟩
theorem S_toList (a : Tx) : (S a).cps.toList = a := rfl
theorem of_S (s : String) : Str.ofString s = S (s.toList.map Char.toNat) := Str.ofString_eq_toList s
theorem S_eq {a b : Tx} : S a = S b ↔ a = b := ⟨S_inj, fun h => by rw [h]⟩
theorem S_ne {a b : Tx} : (S a ≠ S b) ↔ a ≠ b := not_congr S_eq
theorem sg_eq (c : Nat) : ({ cps := #[c] } : Str) = S [c] := rfl
theorem lit_99_104_111_114_100_115_46_101_110_100_105_110_103_115 : Str.ofString "chords.endings" = S [99, 104, 111, 114, 100, 115, 46, 101, 110, 100, 105, 110, 103, 115] := by decide +kernel
theorem lit_97_101_105_111_117 : Str.ofString "aeiou" = S [97, 101, 105, 111, 117] := by decide +kernel
theorem lit_97_98_99_100_101_102_103_104_105_106_107_108_109_110_111_112_113_114_115_116_117_118_119_120_121_122 : Str.ofString "abcdefghijklmnopqrstuvwxyz" = S [97, 98, 99, 100, 101, 102, 103, 104, 105, 106, 107, 108, 109, 110, 111, 112, 113, 114, 115, 116, 117, 118, 119, 120, 121, 122] := by decide +kernel
theorem lit_99_104_111_114_100_115_46_115_104_111_119_105_110_103 : Str.ofString "chords.showing" = S [99, 104, 111, 114, 100, 115, 46, 115, 104, 111, 119, 105, 110, 103] := by decide +kernel
theorem lit_108_97_119_95_99_104_111_114_100_115_95_107_48_57_95_115_104_111_119_110 : Str.ofString "law_chords_k09_shown" = S [108, 97, 119, 95, 99, 104, 111, 114, 100, 115, 95, 107, 48, 57, 95, 115, 104, 111, 119, 110] := by decide +kernel
theorem lit_ : Str.ofString "" = S [] := by decide +kernel
theorem lit_115 : Str.ofString "s" = S [115] := by decide +kernel
theorem lit_105_110_103 : Str.ofString "ing" = S [105, 110, 103] := by decide +kernel
theorem lit_101_100 : Str.ofString "ed" = S [101, 100] := by decide +kernel
theorem lit_108_121 : Str.ofString "ly" = S [108, 121] := by decide +kernel
theorem lit_101_114 : Str.ofString "er" = S [101, 114] := by decide +kernel
theorem lit_101_115_116 : Str.ofString "est" = S [101, 115, 116] := by decide +kernel
theorem lit_97_98_108_101 : Str.ofString "able" = S [97, 98, 108, 101] := by decide +kernel
theorem lit_121 : Str.ofString "y" = S [121] := by decide +kernel
theorem lit_110_101_115_115 : Str.ofString "ness" = S [110, 101, 115, 115] := by decide +kernel
theorem lit_45_108_105_107_101 : Str.ofString "-like" = S [45, 108, 105, 107, 101] := by decide +kernel
theorem lit_39_115 : Str.ofString "'s" = S [39, 115] := by decide +kernel
theorem lit_105_115_104 : Str.ofString "ish" = S [105, 115, 104] := by decide +kernel
theorem lit_97 : Str.ofString "a" = S [97] := by decide +kernel
theorem lit_101 : Str.ofString "e" = S [101] := by decide +kernel
theorem lit_105 : Str.ofString "i" = S [105] := by decide +kernel
theorem lit_111 : Str.ofString "o" = S [111] := by decide +kernel
theorem lit_117 : Str.ofString "u" = S [117] := by decide +kernel
theorem lit_115_105_122_101 : Str.ofString "size" = S [115, 105, 122, 101] := by decide +kernel
theorem lit_97_108_108 : Str.ofString "all" = S [97, 108, 108] := by decide +kernel
theorem lit_103_114_101_97_116 : Str.ofString "great" = S [103, 114, 101, 97, 116] := by decide +kernel
theorem lit_116_101_120_116 : Str.ofString "text" = S [116, 101, 120, 116] := by decide +kernel
theorem lit_116_105_101_100 : Str.ofString "tied" = S [116, 105, 101, 100] := by decide +kernel
theorem lit_103_108_117_101_100 : Str.ofString "glued" = S [103, 108, 117, 101, 100] := by decide +kernel
theorem lit_119_111_114_100 : Str.ofString "word" = S [119, 111, 114, 100] := by decide +kernel
theorem lit_119_120_121 : Str.ofString "wxy" = S [119, 120, 121] := by decide +kernel
theorem lit_101_115 : Str.ofString "es" = S [101, 115] := by decide +kernel
theorem lit_97_101_105_111_117_115_116_120_121_122 : Str.ofString "aeioustxyz" = S [97, 101, 105, 111, 117, 115, 116, 120, 121, 122] := by decide +kernel
theorem lit_97_101_104_110_114_115_119_121_48_49_50_51_52_53_54_55_56_57_39_45 : Str.ofString "aehnrswy0123456789'-" = S [97, 101, 104, 110, 114, 115, 119, 121, 48, 49, 50, 51, 52, 53, 54, 55, 56, 57, 39, 45] := by decide +kernel
theorem lit_103_108_117_101 : Str.ofString "glue" = S [103, 108, 117, 101] := by decide +kernel
theorem lit_106_111_105_110 : Str.ofString "join" = S [106, 111, 105, 110] := by decide +kernel
theorem lit_115_116_111_112 : Str.ofString "stop" = S [115, 116, 111, 112] := by decide +kernel
theorem lit_122 : Str.ofString "z" = S [122] := by decide +kernel
theorem lit_32 : Str.ofString " " = S [32] := by decide +kernel
theorem lit_105_101_115 : Str.ofString "ies" = S [105, 101, 115] := by decide +kernel
theorem lit_97_98_99_100_101_102_103_104_105_106 : Str.ofString "abcdefghij" = S [97, 98, 99, 100, 101, 102, 103, 104, 105, 106] := by decide +kernel
theorem lit_46_63_33_44_58_59 : Str.ofString ".?!,:;" = S [46, 63, 33, 44, 58, 59] := by decide +kernel
theorem lit_108_97_115_116 : Str.ofString "last" = S [108, 97, 115, 116] := by decide +kernel
theorem lit_119 : Str.ofString "w" = S [119] := by decide +kernel
theorem lit_120 : Str.ofString "x" = S [120] := by decide +kernel
theorem lit_99_104 : Str.ofString "ch" = S [99, 104] := by decide +kernel
theorem lit_115_104 : Str.ofString "sh" = S [115, 104] := by decide +kernel
theorem lit_47 : Str.ofString "/" = S [47] := by decide +kernel
theorem lit_46 : Str.ofString "." = S [46] := by decide +kernel
theorem lit_63 : Str.ofString "?" = S [63] := by decide +kernel
theorem lit_33 : Str.ofString "!" = S [33] := by decide +kernel
theorem lit_98_97_99_107 : Str.ofString "back" = S [98, 97, 99, 107] := by decide +kernel
theorem lit_97_103_97_105_110 : Str.ofString "again" = S [97, 103, 97, 105, 110] := by decide +kernel
theorem lit_46_63_33 : Str.ofString ".?!" = S [46, 63, 33] := by decide +kernel
theorem size_le {n : Nat} (h : n ≤ 1000000) : n ≤ sizeLine := Nat.le_trans h (by decide)
theorem size_lt {n : Nat} (h : n < 1000000) : n < sizeLine := Nat.lt_of_lt_of_le h (by decide)
theorem gCons_eq {g : TG} {t : TGs} {x : V} {r : List V} {σ : L2.St} {H : Hp} {Q : L2.St → Hp → Prop} : gCons g t (x :: r) σ H Q = g x σ H fun σ1 H1 => t r σ1 H1 Q := by
  unfold gCons
  apply propext
  constructor
  · rintro ⟨v, r', e, q⟩
    cases e
    exact q
  · exact fun q => ⟨_, _, rfl, q⟩
theorem gNil_eq {σ : L2.St} {H : Hp} {Q : L2.St → Hp → Prop} : gNil [] σ H Q = Q σ H := by
  unfold gNil
  exact propext ⟨fun q => q.2, fun q => ⟨rfl, q⟩⟩
/-! ### heaps -/
theorem same_new {H : Hp} {p : Addr} {o : HO} (h : H p = none) : Same H (upd H p o) := fun b x e => by
  rw [upd_ne (ne_of_none e h)]
  exact e
theorem same_mut {H H' : Hp} {p : Addr} {o : HO} (e : Same H H') (h : H p = none) : Same H (upd H' p o) := fun a u ha => by
  rw [upd_ne (ne_of_none ha h)]
  exact e a u ha
theorem sq_of {K : PySem.W.Frag} {H : Hp} {a : Addr} {xs : List V} (h : H a = some (.lst xs)) : SqL K H a xs := .inl (.inl h)
theorem st_of {K : PySem.W.Frag} {H : Hp} {a : Addr} {xs : List V} (h : H a = some (.tup xs)) : SqT K H a xs := .inl (.inl h)
theorem same_t {K : PySem.W.Frag} {H H' : Hp} {a : Addr} {xs : List V} (e : Same H H') (h : SqT K H a xs) : SqT K H' a xs := by
  rcases h with (h | ⟨o, h⟩) | h
  · exact .inl (.inl (e _ _ h))
  · exact .inl (.inr ⟨o, e _ _ h⟩)
  · exact .inr h
theorem same_l {K : PySem.W.Frag} {H H' : Hp} {a : Addr} {xs : List V} (e : Same H H') (h : SqL K H a xs) : SqL K H' a xs := e.seq h
theorem Dp.ext {K : PySem.W.Frag} {H H' : Hp} (e : Same H H') {v : V} {d : PyData} (h : Dp K H v d) : Dp K H' v d := by
  refine Dp.rec (motive_1 := fun v d _ => Dp K H' v d) (motive_2 := fun vs ds _ => DpAll K H' vs ds) ?_ ?_ ?_ ?_ ?_ ?_ ?_ ?_ h
  · exact .non
  · exact .bl
  · exact .int
  · exact .str
  · intro a xs ds hs _ ih
    exact .lst (same_l e hs) ih
  · intro a xs ds hs _ ih
    exact .tup (same_t e hs) ih
  · exact .nil
  · intro v vs d ds _ _ h1 h2
    exact .cons h1 h2
theorem DpAll.ext {K : PySem.W.Frag} {H H' : Hp} (e : Same H H') : ∀ {vs : List V} {ds : List PyData}, DpAll K H vs ds → DpAll K H' vs ds
  | _, _, .nil => .nil
  | _, _, .cons h t => .cons (Dp.ext e h) (DpAll.ext e t)
theorem DpAll.len {K : PySem.W.Frag} {H : Hp} : ∀ {vs : List V} {ds : List PyData}, DpAll K H vs ds → vs.length = ds.length
  | _, _, .nil => rfl
  | _, _, .cons _ t => congrArg (· + 1) (DpAll.len t)
theorem DpAll.get {K : PySem.W.Frag} {H : Hp} : ∀ {vs : List V} {ds : List PyData} {i : Nat} {d : PyData}, DpAll K H vs ds → ds[i]? = some d → ∃ v, vs[i]? = some v ∧ Dp K H v d
  | _, _, _, _, .nil, h => by simp at h
  | _, _, 0, _, .cons h _, e => by
    simp at e
    subst e
    exact ⟨_, rfl, h⟩
  | _, _, i + 1, _, .cons _ t, e => by
    obtain ⟨v, h1, h2⟩ := DpAll.get (i := i) t (by simpa using e)
    exact ⟨v, by simpa using h1, h2⟩
theorem DpAll.app {K : PySem.W.Frag} {H : Hp} : ∀ {vs ws : List V} {ds es : List PyData}, DpAll K H vs ds → DpAll K H ws es → DpAll K H (vs ++ ws) (ds ++ es)
  | _, _, _, _, .nil, h => h
  | _, _, _, _, .cons a t, h => .cons a (DpAll.app t h)
theorem dp_int {K : PySem.W.Frag} {H : Hp} {v : V} {i : Int} (h : Dp K H v (.int i)) : v = .int i := by cases h; rfl
theorem dp_str {K : PySem.W.Frag} {H : Hp} {v : V} {x : Str} (h : Dp K H v (.str x)) : v = .str x := by cases h; rfl
theorem dp_bl {K : PySem.W.Frag} {H : Hp} {v : V} {b : Bool} (h : Dp K H v (.bool b)) : v = .bl b := by cases h; rfl
theorem dp_non {K : PySem.W.Frag} {H : Hp} {v : V} (h : Dp K H v .none) : v = .non := by cases h; rfl
theorem dp_tup {K : PySem.W.Frag} {H : Hp} {v : V} {ds : List PyData} (h : Dp K H v (.tuple ds)) : ∃ a xs, v = .ref a ∧ SqT K H a xs ∧ DpAll K H xs ds := by
  cases h with
  | tup h1 h2 => exact ⟨_, _, rfl, h1, h2⟩
theorem dp_lst {K : PySem.W.Frag} {H : Hp} {v : V} {ds : List PyData} (h : Dp K H v (.list ds)) : ∃ a xs, v = .ref a ∧ SqL K H a xs ∧ DpAll K H xs ds := by
  cases h with
  | lst h1 h2 => exact ⟨_, _, rfl, h1, h2⟩
theorem dp_ints {K : PySem.W.Frag} {H : Hp} : ∀ ns : List Int, DpAll K H (ns.map V.int) (ns.map PyData.int)
  | [] => .nil
  | n :: r => .cons (.int n) (dp_ints r)
theorem dp_strs {K : PySem.W.Frag} {H : Hp} : ∀ ns : List Str, DpAll K H (ns.map V.str) (ns.map PyData.str)
  | [] => .nil
  | n :: r => .cons (.str n) (dp_strs r)
theorem shaped_ints (ns : List Int) : SeqAt.shaped (.list (ns.map PyData.int)) = true := by
  have h1 : ∀ ns : List Int, PyData.canLayAll0 (ns.map PyData.int) = true := fun ns => by
    induction ns with
    | nil => rfl
    | cons n r ih => simp only [List.map_cons, PyData.canLayAll0, PyData.canLay0, ih, Bool.and_true]
  have h2 : ∀ ns : List Int, PyData.depthAll (ns.map PyData.int) = 0 := fun ns => by
    induction ns with
    | nil => rfl
    | cons n r ih => simp only [List.map_cons, PyData.depthAll, PyData.depth, ih, Nat.max_self]
  simp only [SeqAt.shaped, PyData.canLay0, h1, PyData.depth, h2, Bool.true_and, decide_eq_true_eq]
  decide
theorem eqv_nil (ds : List PyData) : PyData.eqv (.list ds) (.list []) = ds.isEmpty := by
  cases ds with
  | nil => simp only [PyData.eqv, PyData.eqvAll, List.isEmpty_nil]
  | cons d r => simp only [PyData.eqv, PyData.eqvAll, List.isEmpty_cons]
/-- the tuples stay -/
def KT (G G' : Hp) : Prop := ∀ a xs, Rd G a (.tup xs) → Rd G' a (.tup xs)
theorem KT.of {G G' : Hp} (e : Same G G') : KT G G' := fun a xs h => by
  rcases h with h | ⟨o, h⟩
  · exact .inl (e _ _ h)
  · exact .inr ⟨o, e _ _ h⟩
theorem KT.refl (G : Hp) : KT G G := fun _ _ h => h
theorem KT.trans {G G1 G2 : Hp} (a : KT G G1) (b : KT G1 G2) : KT G G2 := fun p xs h => b p xs (a p xs h)
theorem KT.put {G : Hp} {p : Addr} {o o' : HO} (h : G p = some o) (h1 : ∀ xs, o ≠ .tup xs) (h2 : ∀ u xs, o ≠ .frz u (.tup xs)) : KT G (upd G p o') := fun a xs q => by
  rcases q with q | ⟨u, q⟩
  · exact .inl (by rw [upd_ne (fun e => h1 xs (by rw [e, h] at q; exact Option.some.inj q))]; exact q)
  · exact .inr ⟨u, by rw [upd_ne (fun e => h2 u xs (by rw [e, h] at q; exact Option.some.inj q))]; exact q⟩
theorem KT.putL {G : Hp} {p : Addr} {xs : List V} {o' : HO} (h : G p = some (.lst xs)) : KT G (upd G p o') := KT.put h (fun _ q => by cases q) fun _ _ q => by cases q
theorem KT.sq {K : PySem.W.Frag} {G G' : Hp} {a : Addr} {xs : List V} (e : KT G G') (h : SqT K G a xs) : SqT K G' a xs := by
  rcases h with h | h
  · exact .inl (e _ _ h)
  · exact .inr h
mutual
/-- data without lists -/
def noL : PyData → Bool
  | .none | .bool _ | .int _ | .str _ => true
  | .tuple ds => noLs ds
  | .list _ | .dict _ => false
def noLs : List PyData → Bool
  | [] => true
  | d :: r => noL d && noLs r
end
theorem Dp.kt {K : PySem.W.Frag} {H H' : Hp} (e : KT H H') {v : V} {d : PyData} (n : noL d = true) (h : Dp K H v d) : Dp K H' v d := by
  refine Dp.rec (motive_1 := fun v d _ => noL d = true → Dp K H' v d) (motive_2 := fun vs ds _ => noLs ds = true → DpAll K H' vs ds) ?_ ?_ ?_ ?_ ?_ ?_ ?_ ?_ h n
  · exact fun _ => .non
  · exact fun b _ => .bl b
  · exact fun i _ => .int i
  · exact fun x _ => .str x
  · intro a xs ds hs _ ih n
    simp only [noL, Bool.false_eq_true] at n
  · intro a xs ds hs _ ih n
    simp only [noL] at n
    exact .tup (e.sq hs) (ih n)
  · exact fun _ => .nil
  · intro v vs d ds _ _ h1 h2 n
    simp only [noLs, Bool.and_eq_true] at n
    exact .cons (h1 n.1) (h2 n.2)
theorem DpAll.kt {K : PySem.W.Frag} {H H' : Hp} (e : KT H H') : ∀ {vs : List V} {ds : List PyData}, noLs ds = true → DpAll K H vs ds → DpAll K H' vs ds
  | _, _, _, .nil => .nil
  | _, _, n, .cons h t => by
    simp only [noLs, Bool.and_eq_true] at n
    exact .cons (Dp.kt e n.1 h) (DpAll.kt e n.2 t)
/-- data that == and the laws' comparison read: no dict, less than so deep, texts of plain signs -/
def okD : Nat → PyData → Prop
  | 0, _ => False
  | _ + 1, .none => True
  | _ + 1, .bool _ => True
  | _ + 1, .int _ => True
  | _ + 1, .str x => PyData.strOk x = true
  | n + 1, .list ds => ds.length ≤ 100000 ∧ ∀ d ∈ ds, okD n d
  | n + 1, .tuple ds => ds.length ≤ 100000 ∧ ∀ d ∈ ds, okD n d
  | _ + 1, .dict _ => False
theorem okD.mono : ∀ {n : Nat} {d : PyData}, okD n d → okD (n + 1) d
  | 0, _, h => h.elim
  | _ + 1, .none, _ => trivial
  | _ + 1, .bool _, _ => trivial
  | _ + 1, .int _, _ => trivial
  | _ + 1, .str _, h => h
  | _ + 1, .list _, h => ⟨h.1, fun d hd => okD.mono (h.2 d hd)⟩
  | _ + 1, .tuple _, h => ⟨h.1, fun d hd => okD.mono (h.2 d hd)⟩
  | _ + 1, .dict _, h => h.elim
theorem okD.le {n m : Nat} {d : PyData} (h : okD n d) (l : n ≤ m) : okD m d := by
  induction l with
  | refl => exact h
  | step _ ih => exact ih.mono
theorem lay_all {p : PyData → Bool} : ∀ ds : List PyData, (∀ d ∈ ds, PyData.canLay0 d = true) → PyData.canLayAll0 ds = true
  | [], _ => rfl
  | d :: r, h => by
    simp only [PyData.canLayAll0, Bool.and_eq_true]
    exact ⟨h d List.mem_cons_self, lay_all (p := p) r fun e he => h e (List.mem_cons_of_mem _ he)⟩
theorem depth_all {n : Nat} : ∀ ds : List PyData, (∀ d ∈ ds, PyData.depth d ≤ n) → PyData.depthAll ds ≤ n
  | [], _ => Nat.zero_le _
  | d :: r, h => by
    simp only [PyData.depthAll]
    exact Nat.max_le.mpr ⟨h d List.mem_cons_self, depth_all r fun e he => h e (List.mem_cons_of_mem _ he)⟩
theorem okD.lay : ∀ {n : Nat} {d : PyData}, okD n d → PyData.canLay0 d = true ∧ PyData.depth d ≤ n
  | 0, _, h => h.elim
  | _ + 1, .none, _ => ⟨rfl, Nat.zero_le _⟩
  | _ + 1, .bool _, _ => ⟨rfl, Nat.zero_le _⟩
  | _ + 1, .int _, _ => ⟨rfl, Nat.zero_le _⟩
  | _ + 1, .str _, h => ⟨h, Nat.zero_le _⟩
  | n + 1, .list ds, h => by
    simp only [PyData.canLay0, PyData.depth]
    exact ⟨lay_all (p := fun _ => true) ds fun d hd => (h.2 d hd).lay.1, Nat.succ_le_succ (depth_all ds fun d hd => (h.2 d hd).lay.2)⟩
  | n + 1, .tuple ds, h => by
    simp only [PyData.canLay0, PyData.depth]
    exact ⟨lay_all (p := fun _ => true) ds fun d hd => (h.2 d hd).lay.1, Nat.succ_le_succ (depth_all ds fun d hd => (h.2 d hd).lay.2)⟩
  | _ + 1, .dict _, h => h.elim
theorem okD.shaped {n : Nat} {d : PyData} (h : okD n d) (l : n ≤ 64) : SeqAt.shaped d = true := by
  obtain ⟨h1, h2⟩ := h.lay
  simp only [SeqAt.shaped, h1, Bool.true_and, decide_eq_true_eq]
  omega
def asc (t : Tx) : Prop := ∀ c ∈ t, c < 128
theorem asc_ok {t : Tx} (h : asc t) : PyData.strOk (S t) = true := by
  simp only [PyData.strOk]
  rw [← Array.all_toList, List.all_eq_true]
  intro c hc
  have := h c hc
  simp only [decide_eq_true_eq]
  omega
theorem asc_app {a b : Tx} (ha : asc a) (hb : asc b) : asc (a ++ b) := fun c hc => (List.mem_append.mp hc).elim (ha c) (hb c)
theorem asc_drop {a : Tx} (n : Nat) (ha : asc a) : asc (a.drop n) := fun c hc => ha c (List.mem_of_mem_drop hc)
theorem asc_take {a : Tx} (n : Nat) (ha : asc a) : asc (a.take n) := fun c hc => ha c (List.mem_of_mem_take hc)
/-! ### a def by its name -/
structure Cal (P : Program) (w : World) (K : PySem.W.Frag) (mg : Str → Option Value) (base : Heap) (CX : CXT) (k : Nat) (x : Str) (sp : Sp) : Prop where
  ex : ∃ (f : Addr) (fd : FuncData) (ps : List Str), FnOk P w K mg base CX k f fd ps sp ∧ mg x = some (.ref f) ∧ PySem.W.keepIn K (.ref f) = true ∧ Binds K fd ps []
section
variable {X : Cx} {k j : Nat} {x m : Str} {sp : Sp} {p pos apos : Pos} {e o : Expr} {es : List Expr} {ta : TE} {t : TA}
theorem pe_c (c : Cal X.prog X.w X.K X.mg X.base CX0 k x sp) (hr : Room j X.A) (hk : k ≤ j) (hg : Gl X x) (ha : PA X (e :: es) t)
    (hdb : (x == ("__debug__" : Str)) = false := by decide) (he : starEach (e :: es) X.env = (false, eval e X.env) :: starEach es X.env := by rfl) (hpl : (backTo pos (starEach es X.env)).any (·.1) = false := by rfl) :
    PE X (.Call (.Name x p) (e :: es) [] pos) (tCall sp [] E0 t) := by
  obtain ⟨f, fd, ps, F, hm, kp, b⟩ := c.ex
  exact pe_call F (hr.mono hk) hg hm kp b .nil pass0 ha hdb he hpl
theorem pe_gc {v : V} (hg : Gl X x) (h : ∃ u, X.mg x = some u ∧ RelV v u) (hd : (x == ("__debug__" : Str)) = false := by decide) : PE X (.Name x pos) (tC v) := by
  obtain ⟨u, hm, r⟩ := h
  exact pe_glob hg hm r hd
end
/-! ### the box of a script's numbers: G is all that is known beside it -/
def Bx (b : Addr) (G H : Hp) : Prop := Same G H ∧ G b = none ∧ ∃ (l : Addr) (ns : List Int) (s : Int), G l = none ∧ H b = some (.lst [.ref l, .int s]) ∧ H l = some (.lst (ns.map V.int)) ∧ 0 ≤ s ∧ s < 2147483647
theorem Bx.ex {b : Addr} {G H : Hp} (h : Bx b G H) : Same G H := h.1
theorem Bx.alloc {b p : Addr} {G H : Hp} {o : HO} (h : Bx b G H) (hp : H p = none) : Bx b (upd G p o) (upd H p o) := by
  obtain ⟨s0, gb, l, ns, s, gl, hb, hl, r⟩ := h
  have nb : b ≠ p := ne_of_none hb hp
  have nl : l ≠ p := ne_of_none hl hp
  refine ⟨fun a u e => ?_, by rw [upd_ne nb]; exact gb, l, ns, s, by rw [upd_ne nl]; exact gl, by rw [upd_ne nb]; exact hb, by rw [upd_ne nl]; exact hl, r⟩
  by_cases ha : a = p
  · subst ha
    rw [upd_same] at e ⊢
    exact e
  · rw [upd_ne ha] at e ⊢
    exact s0 a u e
theorem Bx.put {b p : Addr} {G H : Hp} {o o' : HO} (h : Bx b G H) (hp : G p = some o) : Bx b (upd G p o') (upd H p o') := by
  obtain ⟨s0, gb, l, ns, s, gl, hb, hl, r⟩ := h
  have nb : b ≠ p := (ne_of_none hp gb).symm
  have nl : l ≠ p := (ne_of_none hp gl).symm
  refine ⟨fun a u e => ?_, by rw [upd_ne nb]; exact gb, l, ns, s, by rw [upd_ne nl]; exact gl, by rw [upd_ne nb]; exact hb, by rw [upd_ne nl]; exact hl, r⟩
  by_cases ha : a = p
  · subst ha
    rw [upd_same] at e ⊢
    exact e
  · rw [upd_ne ha] at e ⊢
    exact s0 a u e
abbrev FunS (K : PySem.W.Frag) (x : Str) (st : Stmt) (f : Addr) (fd : FuncData) : Prop := FunD K x x (defArgs st) (defBody st) (defScope st) [] [] f fd
theorem cal_of {P : Program} {w : World} {K : PySem.W.Frag} {mg : Str → Option Value} {base : Heap} {CX : CXT} {k : Nat} {x : Str} {st : Stmt} {f : Addr} {fd : FuncData} {ps : List Str} {sp : Sp} (F : FunS K x st f fd) (ok : FnOk P w K mg base CX k f fd ps sp) (m : mg x = some (.ref f)) (b : Binds K fd ps []) :
    Cal P w K mg base CX k x sp := ⟨f, fd, ps, ok, m, F.kp, b⟩
theorem start2 {a b c : Str} {u v : V} : L2.start [a, b, c] [u, v] = [some u, some v, none] := rfl
theorem cxOf_K {CX : CXT} {P : Program} {w : World} {K : PySem.W.Frag} {mg : Str → Option Value} {base : Heap} {N : List Str} {qual : Str} {scope : Scope} {f : Addr} {cd : Value} {A : Around} {outer : List Env} {s : Shared} {H : Hp} {E : XK} :
    (cxOf CX P w K mg base N qual scope f cd A outer s H E).K = K := rfl
/-- a new object: the heap behind it by a letter -/
theorem al_ {H H1 : Hp} {p : Addr} {o : HO} (hp : H p = none) (e : upd H p o = H1) : Same H H1 ∧ H1 p = some o := by
  subst e
  exact ⟨same_new hp, upd_same⟩
theorem alB_ {b p : Addr} {G H H1 : Hp} {o : HO} (B : Bx b G H) (hp : H p = none) (e : upd H p o = H1) : ∃ G1, G p = none ∧ Same G G1 ∧ Bx b G1 H1 ∧ G1 p = some o := by
  subst e
  exact ⟨upd G p o, B.ex.free hp, same_new (B.ex.free hp), B.alloc hp, upd_same⟩
theorem at0 {α : Type} (x : α) (r : List α) : atI (x :: r) 0 = some x := atI_nat (j := 0) rfl
theorem at1 {α : Type} (x y : α) (r : List α) : atI (x :: y :: r) 1 = some y := atI_nat (j := 1) rfl
theorem ixn {n j : Nat} (h : j < n) : ixN n (j : Int) = some j := by
  unfold ixN
  rw [if_pos (by omega), if_pos (by omega)]
  simp
theorem ix0 (n : Nat) : ixN (n + 1) 0 = some 0 := ixn (j := 0) (by omega)
/-! ### loops -/
theorem drop_cons {α : Type} {xs : List α} {i : Nat} {x : α} (h : xs[i]? = some x) : xs.drop i = x :: xs.drop (i + 1) := by
  obtain ⟨h1, h2⟩ := List.getElem?_eq_some_iff.mp h
  rw [← h2]
  exact List.drop_eq_getElem_cons h1
/-- the turns of a for, once what it walks has come -/
def LoopP (J : It) (g : TG) (tb : TS) (D : Ends) (σ : L2.St) (H : Hp) : Prop := ∃ W : Nat → Nat → L2.St → Hp → Prop, (∃ m, W 0 m σ H) ∧ ∀ i m σ H, W i m σ H →
  (J.stop i H ∧ D.nx σ H) ∨ (J.go i H ∧ ∃ N : L2.St → Hp → Prop, (∀ σ' H', N σ' H' → ∃ m', m' < m ∧ W (i + 1) m' σ' H') ∧ ∀ x H', J.yld i H x H' → g x σ H' fun σ2 H2 => tb { D with nx := N, ct := N, bk := D.nx } σ2 H2)
theorem tFor_eq {wi : TI} {g : TG} {tb : TS} {D : Ends} {σ : L2.St} {H : Hp} : tFor wi g tb D σ H = wi σ H fun J H1 => LoopP J g tb D σ H1 := rfl
/-- the turns of a comprehension, L the new list -/
def CompP (J : It) (g : TG) (tt : TT) (te : TE) (vs : List Nat) (σ : L2.St) (L : Addr) (Q : VK) (H : Hp) : Prop := ∃ W : Nat → Nat → Hp → Prop, (∃ m, W 0 m H) ∧ ∀ i m H, W i m H →
  (J.stop i H ∧ Q (.ref L) H) ∨ (J.go i H ∧ ∃ Nx : Hp → Prop, (∀ H', Nx H' → ∃ m', m' < m ∧ W (i + 1) m' H') ∧ ∀ x H', J.yld i H x H' → g x (wipe σ vs) H' fun σ2 H2 => wipe σ2 vs = wipe σ vs ∧ tt σ2 H2 fun b H3 =>
    if b = true then te σ2 H3 fun y H4 => ∃ acc, H4 L = some (.lst acc) ∧ acc.length < sizeLine ∧ Nx (upd H4 L (.lst (acc ++ [y]))) else Nx H3)
theorem tLc_eq {wi : TI} {g : TG} {tt : TT} {te : TE} {vs : List Nat} {σ : L2.St} {H : Hp} {Q : VK} : tLc wi g tt te vs σ H Q = wi σ H fun J H1 => ∀ L, H1 L = none → CompP J g tt te vs σ L Q (upd H1 L (.lst [])) := rfl
theorem iList_eq {K : PySem.W.Frag} {te : TE} {σ : L2.St} {H : Hp} {R : It → Hp → Prop} : iList K te σ H R = te σ H fun v H1 => ∃ a, v = .ref a ∧ (∃ xs, SqL K H1 a xs) ∧ R (Itl K a) H1 := rfl
theorem iTup_eq {K : PySem.W.Frag} {te : TE} {σ : L2.St} {H : Hp} {R : It → Hp → Prop} : iTup K te σ H R = te σ H fun v H1 => ∃ a, v = .ref a ∧ (∃ xs, SqT K H1 a xs) ∧ R (Itt K a) H1 := rfl
theorem iRng1_eq {t : TA} {σ : L2.St} {H : Hp} {R : It → Hp → Prop} : iRng1 t σ H R = t σ H fun vs H1 => ∃ j : Int, vs = [.int j] ∧ -(2 ^ 62) ≤ j ∧ j < 2 ^ 62 ∧ R (Itr 0 j.toNat) H1 := rfl
theorem iStr_eq {te : TE} {σ : L2.St} {H : Hp} {R : It → Hp → Prop} : iStr te σ H R = te σ H fun v H1 => ∃ x, v = .str x ∧ R (Its x) H1 := rfl
section
variable {g : TG} {tb : TS} {D : Ends} {σ : L2.St} {H : Hp} {tt : TT} {te : TE} {vs : List Nat} {L : Addr} {Q : VK}
/-- over a list that stands: Pv by what is left -/
theorem loop_list {K : PySem.W.Frag} {a : Addr} (xs : List V) (Pv : List V → L2.St → Hp → Prop) (h0 : Pv xs σ H) (hl : ∀ r σ H, Pv r σ H → SqL K H a xs)
    (hs : ∀ x r σ H, Pv (x :: r) σ H → g x σ H fun σ2 H2 => tb { D with nx := Pv r, ct := Pv r, bk := D.nx } σ2 H2) (hd : ∀ σ H, Pv [] σ H → D.nx σ H) : LoopP (Itl K a) g tb D σ H :=
  for_list (fun i σ H => Pv (xs.drop i) σ H) h0 (fun i σ H _ q => hl _ _ _ q) (fun i x σ H e q => by
    rw [drop_cons e] at q
    exact hs x _ σ H q) fun σ H q => hd σ H (by rw [List.drop_length] at q; exact q)
theorem loop_tup {K : PySem.W.Frag} {a : Addr} (xs : List V) (Pv : List V → L2.St → Hp → Prop) (h0 : Pv xs σ H) (hl : ∀ r σ H, Pv r σ H → SqT K H a xs)
    (hs : ∀ x r σ H, Pv (x :: r) σ H → g x σ H fun σ2 H2 => tb { D with nx := Pv r, ct := Pv r, bk := D.nx } σ2 H2) (hd : ∀ σ H, Pv [] σ H → D.nx σ H) : LoopP (Itt K a) g tb D σ H :=
  for_tup (fun i σ H => Pv (xs.drop i) σ H) h0 (fun i σ H _ q => hl _ _ _ q) (fun i x σ H e q => by
    rw [drop_cons e] at q
    exact hs x _ σ H q) fun σ H q => hd σ H (by rw [List.drop_length] at q; exact q)
/-- over a range from 0, by the turn -/
theorem loop_range {n : Nat} (Pv : Nat → L2.St → Hp → Prop) (h0 : Pv 0 σ H)
    (hs : ∀ i σ H, i < n → Pv i σ H → g (.int i) σ H fun σ2 H2 => tb { D with nx := Pv (i + 1), ct := Pv (i + 1), bk := D.nx } σ2 H2) (hd : ∀ σ H, Pv n σ H → D.nx σ H) : LoopP (Itr 0 n) g tb D σ H :=
  for_range Pv h0 (fun i σ H hi p => by
    have e0 : (0 : Int) + (i : Int) = (i : Int) := Int.zero_add _
    rw [e0]
    exact hs i σ H hi p) hd
/-- over a text's signs -/
theorem loop_str (cs : Tx) (Pv : Tx → L2.St → Hp → Prop) (h0 : Pv cs σ H)
    (hs : ∀ c r σ H, Pv (c :: r) σ H → g (.str (S [c])) σ H fun σ2 H2 => tb { D with nx := Pv r, ct := Pv r, bk := D.nx } σ2 H2) (hd : ∀ σ H, Pv [] σ H → D.nx σ H) : LoopP (Its (S cs)) g tb D σ H := by
  refine ⟨fun i m σ H => m = cs.length - i ∧ i ≤ cs.length ∧ Pv (cs.drop i) σ H, ⟨cs.length, by simp, Nat.zero_le _, h0⟩, ?_⟩
  rintro i m σ H ⟨rfl, hi, p⟩
  have sz : (S cs).cps.size = cs.length := by simp
  by_cases hlt : i < cs.length
  · refine .inr ⟨by show i < (S cs).cps.size; omega, Pv (cs.drop (i + 1)), fun σ' H' p' => ⟨cs.length - (i + 1), by omega, rfl, hlt, p'⟩, fun x H' y => ?_⟩
    obtain ⟨e, c, e2, e3⟩ := y
    subst e e3
    have e4 : cs[i]? = some c := by
      rw [← e2]
      simp
    rw [drop_cons e4] at p
    exact hs c _ σ _ p
  · have e : i = cs.length := by omega
    subst e
    rw [List.drop_length] at p
    exact .inl ⟨by show (S cs).cps.size ≤ _; omega, hd σ H p⟩
/-- comprehensions: what stands behind a turn -/
def CNx (L : Addr) (i : Nat) (P : List V → Hp → Prop) (H : Hp) : Prop := ∃ acc, H L = some (.lst acc) ∧ acc.length ≤ i ∧ P acc H
theorem cput {i : Nat} {acc : List V} {y : V} {P : List V → Hp → Prop} (hL : H L = some (.lst acc)) (ha : acc.length ≤ i) (hi : i < 1000000) (h : P (acc ++ [y]) (upd H L (.lst (acc ++ [y])))) :
    ∃ acc, H L = some (.lst acc) ∧ acc.length < sizeLine ∧ CNx L (i + 1) P (upd H L (.lst (acc ++ [y]))) :=
  ⟨acc, hL, size_lt (by omega), acc ++ [y], upd_same, by rw [List.length_append, List.length_singleton]; omega, h⟩
theorem cskip {i : Nat} {acc : List V} {P : List V → Hp → Prop} (hL : H L = some (.lst acc)) (ha : acc.length ≤ i) (h : P acc H) : CNx L (i + 1) P H := ⟨acc, hL, by omega, h⟩
theorem comp_list {K : PySem.W.Frag} {a : Addr} (xs : List V) (Pv : List V → List V → Hp → Prop) (hz : xs.length ≤ 1000000) (h0 : Pv xs [] H) (hL0 : H L = some (.lst [])) (hl : ∀ r acc H, Pv r acc H → SqL K H a xs)
    (hs : ∀ i x r acc H, H L = some (.lst acc) → acc.length ≤ i → i < 1000000 → Pv (x :: r) acc H → g x (wipe σ vs) H fun σ2 H2 => wipe σ2 vs = wipe σ vs ∧ tt σ2 H2 fun b H3 =>
      if b = true then te σ2 H3 fun y H4 => ∃ acc, H4 L = some (.lst acc) ∧ acc.length < sizeLine ∧ CNx L (i + 1) (Pv r) (upd H4 L (.lst (acc ++ [y]))) else CNx L (i + 1) (Pv r) H3)
    (hd : ∀ acc H, H L = some (.lst acc) → acc.length ≤ xs.length → Pv [] acc H → Q (.ref L) H) : CompP (Itl K a) g tt te vs σ L Q H := by
  refine ⟨fun i m H => m = xs.length - i ∧ i ≤ xs.length ∧ CNx L i (Pv (xs.drop i)) H, ⟨xs.length, by simp, Nat.zero_le _, [], hL0, Nat.le_refl _, h0⟩, ?_⟩
  rintro i m H ⟨rfl, hi, acc, hA, hn, p⟩
  have q := hl _ _ _ p
  by_cases hlt : i < xs.length
  · refine .inr ⟨⟨xs, xs[i], q, by simp [hlt]⟩, CNx L (i + 1) (Pv (xs.drop (i + 1))), fun H' p' => ⟨xs.length - (i + 1), by omega, rfl, hlt, p'⟩, fun x H' y => ?_⟩
    obtain ⟨e, y⟩ := y
    subst e
    rw [drop_cons (y xs q)] at p
    exact hs i x _ acc _ hA hn (by omega) p
  · have e : i = xs.length := by omega
    subst e
    rw [List.drop_length] at p
    exact .inl ⟨⟨xs, q, Nat.le_refl _⟩, hd acc H hA hn p⟩
theorem comp_tup {K : PySem.W.Frag} {a : Addr} (xs : List V) (Pv : List V → List V → Hp → Prop) (hz : xs.length ≤ 1000000) (h0 : Pv xs [] H) (hL0 : H L = some (.lst [])) (hl : ∀ r acc H, Pv r acc H → SqT K H a xs)
    (hs : ∀ i x r acc H, H L = some (.lst acc) → acc.length ≤ i → i < 1000000 → Pv (x :: r) acc H → g x (wipe σ vs) H fun σ2 H2 => wipe σ2 vs = wipe σ vs ∧ tt σ2 H2 fun b H3 =>
      if b = true then te σ2 H3 fun y H4 => ∃ acc, H4 L = some (.lst acc) ∧ acc.length < sizeLine ∧ CNx L (i + 1) (Pv r) (upd H4 L (.lst (acc ++ [y]))) else CNx L (i + 1) (Pv r) H3)
    (hd : ∀ acc H, H L = some (.lst acc) → acc.length ≤ xs.length → Pv [] acc H → Q (.ref L) H) : CompP (Itt K a) g tt te vs σ L Q H := by
  refine ⟨fun i m H => m = xs.length - i ∧ i ≤ xs.length ∧ CNx L i (Pv (xs.drop i)) H, ⟨xs.length, by simp, Nat.zero_le _, [], hL0, Nat.le_refl _, h0⟩, ?_⟩
  rintro i m H ⟨rfl, hi, acc, hA, hn, p⟩
  have q := hl _ _ _ p
  by_cases hlt : i < xs.length
  · refine .inr ⟨⟨xs, xs[i], q, by simp [hlt]⟩, CNx L (i + 1) (Pv (xs.drop (i + 1))), fun H' p' => ⟨xs.length - (i + 1), by omega, rfl, hlt, p'⟩, fun x H' y => ?_⟩
    obtain ⟨e, y⟩ := y
    subst e
    rw [drop_cons (y xs q)] at p
    exact hs i x _ acc _ hA hn (by omega) p
  · have e : i = xs.length := by omega
    subst e
    rw [List.drop_length] at p
    exact .inl ⟨⟨xs, q, Nat.le_refl _⟩, hd acc H hA hn p⟩
theorem comp_str (cs : Tx) (Pv : Tx → List V → Hp → Prop) (hz : cs.length ≤ 1000000) (h0 : Pv cs [] H) (hL0 : H L = some (.lst []))
    (hs : ∀ i c r acc H, H L = some (.lst acc) → acc.length ≤ i → i < 1000000 → Pv (c :: r) acc H → g (.str (S [c])) (wipe σ vs) H fun σ2 H2 => wipe σ2 vs = wipe σ vs ∧ tt σ2 H2 fun b H3 =>
      if b = true then te σ2 H3 fun y H4 => ∃ acc, H4 L = some (.lst acc) ∧ acc.length < sizeLine ∧ CNx L (i + 1) (Pv r) (upd H4 L (.lst (acc ++ [y]))) else CNx L (i + 1) (Pv r) H3)
    (hd : ∀ acc H, H L = some (.lst acc) → acc.length ≤ cs.length → Pv [] acc H → Q (.ref L) H) : CompP (Its (S cs)) g tt te vs σ L Q H := by
  refine ⟨fun i m H => m = cs.length - i ∧ i ≤ cs.length ∧ CNx L i (Pv (cs.drop i)) H, ⟨cs.length, by simp, Nat.zero_le _, [], hL0, Nat.le_refl _, h0⟩, ?_⟩
  rintro i m H ⟨rfl, hi, acc, hA, hn, p⟩
  have sz : (S cs).cps.size = cs.length := by simp
  by_cases hlt : i < cs.length
  · refine .inr ⟨by show i < (S cs).cps.size; omega, CNx L (i + 1) (Pv (cs.drop (i + 1))), fun H' p' => ⟨cs.length - (i + 1), by omega, rfl, hlt, p'⟩, fun x H' y => ?_⟩
    obtain ⟨e, c, e2, e3⟩ := y
    subst e e3
    have e4 : cs[i]? = some c := by
      rw [← e2]
      simp
    rw [drop_cons e4] at p
    exact hs i c _ acc _ hA hn (by omega) p
  · have e : i = cs.length := by omega
    subst e
    rw [List.drop_length] at p
    exact .inl ⟨by show (S cs).cps.size ≤ _; omega, hd acc H hA hn p⟩
theorem comp_range {n : Nat} (Pv : Nat → List V → Hp → Prop) (hz : n ≤ 1000000) (h0 : Pv 0 [] H) (hL0 : H L = some (.lst []))
    (hs : ∀ i acc H, i < n → H L = some (.lst acc) → acc.length ≤ i → i < 1000000 → Pv i acc H → g (.int i) (wipe σ vs) H fun σ2 H2 => wipe σ2 vs = wipe σ vs ∧ tt σ2 H2 fun b H3 =>
      if b = true then te σ2 H3 fun y H4 => ∃ acc, H4 L = some (.lst acc) ∧ acc.length < sizeLine ∧ CNx L (i + 1) (Pv (i + 1)) (upd H4 L (.lst (acc ++ [y]))) else CNx L (i + 1) (Pv (i + 1)) H3)
    (hd : ∀ acc H, H L = some (.lst acc) → acc.length ≤ n → Pv n acc H → Q (.ref L) H) : CompP (Itr 0 n) g tt te vs σ L Q H := by
  refine ⟨fun i m H => m = n - i ∧ i ≤ n ∧ CNx L i (Pv i) H, ⟨n, by simp, Nat.zero_le _, [], hL0, Nat.le_refl _, h0⟩, ?_⟩
  rintro i m H ⟨rfl, hi, acc, hA, hn, p⟩
  by_cases hlt : i < n
  · refine .inr ⟨hlt, CNx L (i + 1) (Pv (i + 1)), fun H' p' => ⟨n - (i + 1), by omega, rfl, hlt, p'⟩, fun x H' y => ?_⟩
    obtain ⟨e, e2⟩ := y
    subst e e2
    have e0 : (0 : Int) + (i : Int) = (i : Int) := Int.zero_add _
    rw [e0]
    exact hs i acc _ hlt hA hn (by omega) p
  · have e : i = n := by omega
    subst e
    exact .inl ⟨Nat.le_refl _, hd acc H hA hn p⟩
/-- a comprehension over a range whose element draws: each item as P says -/
theorem comp_draw {n j : Nat} {b : Addr} {G : Hp} (P : V → Hp → Prop) (mono : ∀ v G G', KT G G' → P v G → P v G') (hz : n ≤ 1000000) (B : Bx b G H) (hL : H L = none)
    (hw : ∀ x, wipe ((wipe σ vs).set j (some x)) vs = wipe σ vs)
    (hs : ∀ (i : Nat) G' H' (Q' : VK), i < n → Same G G' → Bx b G' H' → (∀ v G2 H2, Same G' G2 → Bx b G2 H2 → P v G2 → Q' v H2) → te ((wipe σ vs).set j (some (.int i))) H' Q')
    (hd : ∀ acc G' H', Same G G' → Bx b G' H' → G' L = some (.lst acc) → acc.length = n → (∀ v ∈ acc, P v G') → Q (.ref L) H') : CompP (Itr 0 n) (gName j) tYes te vs σ L Q (upd H L (.lst [])) := by
  have B0 := B.alloc (o := .lst []) hL
  have gl : G L = none := B.ex.free hL
  refine comp_range (fun i acc H' => acc.length = i ∧ ∃ G', Same G G' ∧ Bx b G' H' ∧ G' L = some (.lst acc) ∧ ∀ v ∈ acc, P v G') hz ⟨rfl, _, same_new gl, B0, upd_same, fun _ h => nomatch h⟩ upd_same ?_ ?_
  · rintro i acc H' hi hA hn hi2 ⟨hlen, G', s1, B1, hl, hp⟩
    show _ ∧ te _ _ _
    refine ⟨hw _, hs i G' H' _ hi s1 B1 fun v G2 H2 s2 B2 pv => ?_⟩
    have hl2 := s2 _ _ hl
    refine cput (B2.ex _ _ hl2) hn hi2 ⟨by rw [List.length_append, List.length_singleton, hlen], _, same_mut (s1.trans s2) gl, B2.put hl2, upd_same, fun u hu => ?_⟩
    have kt : KT G2 (upd G2 L (.lst (acc ++ [v]))) := KT.put hl2 (by intro xs q; cases q) (by intro o xs q; cases q)
    rcases List.mem_append.mp hu with h | h
    · exact mono _ _ _ kt (mono _ _ _ (KT.of s2) (hp u h))
    · rw [List.mem_singleton.mp h]
      exact mono _ _ _ kt pv
  · rintro acc H' hA hn ⟨hlen, G', s1, B1, hl, hp⟩
    exact hd acc G' H' s1 B1 hl hlen hp
/-- while, by a number that falls -/
theorem loop_while {c : TT} (Pv : Nat → L2.St → Hp → Prop) (m0 : Nat) (h0 : Pv m0 σ H)
    (hs : ∀ m σ H, Pv m σ H → c σ H fun b H1 => if b = true then ∃ m', m' < m ∧ tb { D with nx := Pv m', ct := Pv m', bk := D.nx } σ H1 else D.nx σ H1)
    (mono : ∀ σ H Q Q', (∀ b H1, Q b H1 → Q' b H1) → c σ H Q → c σ H Q') : tWhile c tb D σ H := by
  refine ⟨Pv, ⟨m0, h0⟩, fun m σ H p => ?_⟩
  refine mono σ H _ _ (fun b H1 q => ?_) (hs m σ H p)
  cases b with
  | true =>
    obtain ⟨m', l, q⟩ := q
    exact ⟨Pv m', fun σ' H' p' => ⟨m', l, p'⟩, q⟩
  | false => exact q
end
/-! ### tests whose answer is known -/
theorem vT {A B : Prop} (h : A) : ∃ c, V.bl true = V.bl c ∧ if c = true then A else B := ⟨true, rfl, by rw [if_pos rfl]; exact h⟩
theorem vF {A B : Prop} (h : B) : ∃ c, V.bl false = V.bl c ∧ if c = true then A else B := ⟨false, rfl, by rw [if_neg (fun z => nomatch z)]; exact h⟩
theorem nT {A B : Prop} (h : B) : ∃ c, V.bl true = V.bl c ∧ if c = false then A else B := ⟨true, rfl, by rw [if_neg (fun z => nomatch z)]; exact h⟩
theorem nF {A B : Prop} (h : A) : ∃ c, V.bl false = V.bl c ∧ if c = false then A else B := ⟨false, rfl, by rw [if_pos rfl]; exact h⟩
theorem start1_3 {a b c : Str} {u : V} : L2.start [a, b, c] [u] = [some u, none, none] := rfl
/-! ### slices -/
def cutL {α : Type} (l : List α) (lo hi : Option Int) : List α := (l.drop (HT.sIx l.length 0 lo)).take (HT.sIx l.length l.length hi - HT.sIx l.length 0 lo)
theorem cutS_S (l : Tx) (lo hi : Option Int) : cutS (S l) lo hi = S (cutL l lo hi) := by
  unfold cutS cutL
  rw [S_len]
theorem cutV_L (l : List V) (lo hi : Option Int) : cutV l lo hi = cutL l lo hi := rfl
theorem cutL_from {α : Type} (l : List α) (k : Nat) : cutL l (some (k : Int)) none = l.drop k := by
  unfold cutL
  rw [HT.sIx_nat, HT.sIx_none]
  by_cases h : k ≤ l.length
  · rw [Nat.min_eq_left h, List.take_of_length_le (by rw [List.length_drop]; omega)]
  · rw [Nat.min_eq_right (by omega), List.drop_length, List.drop_of_length_le (by omega), List.take_nil]
theorem cutL_to {α : Type} (l : List α) (k : Nat) : cutL l none (some (k : Int)) = l.take k := by
  unfold cutL
  rw [HT.sIx_nat, HT.sIx_none, List.drop_zero, Nat.sub_zero]
  by_cases h : k ≤ l.length
  · rw [Nat.min_eq_left h]
  · rw [Nat.min_eq_right (by omega), List.take_length, List.take_of_length_le (by omega)]
theorem cutL_mid {α : Type} (l : List α) (i j : Nat) : cutL l (some (i : Int)) (some (j : Int)) = (l.take j).drop i := by
  unfold cutL
  rw [HT.sIx_nat, HT.sIx_nat, List.drop_take]
  by_cases h : i ≤ l.length
  · rw [Nat.min_eq_left h]
    by_cases h2 : j ≤ l.length
    · rw [Nat.min_eq_left h2]
    · rw [Nat.min_eq_right (by omega), List.take_of_length_le (by rw [List.length_drop]; omega), List.take_of_length_le (by rw [List.length_drop]; omega)]
  · rw [Nat.min_eq_right (by omega : l.length ≤ i), List.drop_length, List.drop_of_length_le (by omega : l.length ≤ i)]
    simp
theorem sIx_neg {n d : Nat} {v : Int} (h : v < 0) : HT.sIx n d (some v) = (v + (n : Int)).toNat := by
  show (if v < 0 then _ else _) = _
  rw [if_pos h]
/-- l[:-1] -/
theorem cutL_init {α : Type} (l : List α) : cutL l none (some (-1)) = l.dropLast := by
  unfold cutL
  rw [sIx_neg (by decide), HT.sIx_none, List.drop_zero, Nat.sub_zero, List.dropLast_eq_take]
  congr 1
  omega
/-- l[-1:] -/
theorem cutL_last {α : Type} (l : List α) : cutL l (some (-1)) none = l.drop (l.length - 1) := by
  unfold cutL
  rw [sIx_neg (by decide), HT.sIx_none]
  have e : (-1 + (l.length : Int)).toNat = l.length - 1 := by omega
  rw [e, List.take_of_length_le (by rw [List.length_drop]; omega)]
/-- l[1:-1] -/
theorem cutL_in {α : Type} (l : List α) : cutL l (some 1) (some (-1)) = (l.drop 1).dropLast := by
  unfold cutL
  have e1 : HT.sIx l.length 0 (some 1) = min 1 l.length := HT.sIx_nat _ _ 1
  rw [sIx_neg (by decide), e1, List.dropLast_eq_take, List.length_drop]
  have e : (-1 + (l.length : Int)).toNat = l.length - 1 := by omega
  rw [e]
  cases l with
  | nil => rfl
  | cons a r =>
    have e2 : min 1 (a :: r).length = 1 := by rw [List.length_cons]; omega
    rw [e2]
theorem atI_neg {α : Type} (l : List α) (k : Nat) (h0 : 0 < k) (h : k ≤ l.length) : atI l (-(k : Int)) = l[l.length - k]? := by
  unfold atI ixN
  rw [if_neg (by omega), if_pos (by omega)]
  show l[(-(k : Int) + (l.length : Int)).toNat]? = _
  have e : (-(k : Int) + (l.length : Int)).toNat = l.length - k := by omega
  rw [e]
/-- while, by a number that falls, the test told -/
theorem loop_whileP {c : TT} {tb : TS} {D : Ends} {σ : L2.St} {H : Hp} (Pv : Nat → L2.St → Hp → Prop) (m0 : Nat) (h0 : Pv m0 σ H)
    (hs : ∀ m σ H, Pv m σ H → ∃ b, (∀ R : Bool → Hp → Prop, R b H → c σ H R) ∧ if b = true then ∃ m', m' < m ∧ tb { D with nx := Pv m', ct := Pv m', bk := D.nx } σ H else D.nx σ H) : tWhile c tb D σ H := by
  refine ⟨Pv, ⟨m0, h0⟩, fun m σ H p => ?_⟩
  obtain ⟨b, hb, q⟩ := hs m σ H p
  refine hb _ ?_
  cases b with
  | true =>
    obtain ⟨m', l, q⟩ := q
    exact ⟨Pv m', fun σ' H' p' => ⟨m', l, p'⟩, q⟩
  | false => exact q
theorem start2_3 {a b c : Str} {u v : V} : L2.start [a, b, c] [u, v] = [some u, some v, none] := rfl
theorem start1_8 {a b c d e f g h : Str} {u : V} : L2.start [a, b, c, d, e, f, g, h] [u] = [some u, none, none, none, none, none, none, none] := rfl
theorem start1_1 {a : Str} {u : V} : L2.start [a] [u] = [some u] := rfl
theorem start1_2 {a b : Str} {u : V} : L2.start [a, b] [u] = [some u, none] := rfl
theorem start1_4 {a b c d : Str} {u : V} : L2.start [a, b, c, d] [u] = [some u, none, none, none] := rfl
/-- an if whose test gives b and changes nothing -/
theorem if_pure {t : TT} {u v : TS} {D : Ends} {σ : L2.St} {H : Hp} (b : Bool) (ht : ∀ R : Bool → Hp → Prop, R b H → t σ H R) (h1 : b = true → u D σ H) (h2 : b = false → v D σ H) : tIfS t u v D σ H := by
  refine ht _ ?_
  cases b with
  | true => exact h1 rfl
  | false => exact h2 rfl
/-- .. and may make new objects -/
theorem if_new {t : TT} {u v : TS} {D : Ends} {σ : L2.St} {H : Hp} (b : Bool) (ht : ∀ R : Bool → Hp → Prop, (∀ H', Same H H' → R b H') → t σ H R) (h1 : b = true → ∀ H', Same H H' → u D σ H') (h2 : b = false → ∀ H', Same H H' → v D σ H') : tIfS t u v D σ H := by
  refine ht _ fun H' s => ?_
  cases b with
  | true => exact h1 rfl H' s
  | false => exact h2 rfl H' s
theorem inV_S (x : Tx) (ts : List Tx) : inV (.str (S x)) (ts.map fun t => .str (S t)) = ts.contains x := by
  induction ts with
  | nil => rfl
  | cons t r ih =>
    have e : inV (.str (S x)) ((t :: r).map fun t => .str (S t)) = ((S t == S x) || inV (.str (S x)) (r.map fun t => .str (S t))) := rfl
    rw [e, ih, SX.S_beq, List.contains_cons]
    congr 1
    rw [Bool.eq_iff_iff, beq_iff_eq, beq_iff_eq]
    exact eq_comm
theorem cutL_toneg {α : Type} (l : List α) (k : Nat) (h0 : 0 < k) : cutL l none (some (-(k : Int))) = l.take (l.length - k) := by
  unfold cutL
  rw [sIx_neg (by omega), HT.sIx_none, List.drop_zero, Nat.sub_zero]
  congr 1
  omega
theorem cutL_fromneg {α : Type} (l : List α) (k : Nat) (h0 : 0 < k) : cutL l (some (-(k : Int))) none = l.drop (l.length - k) := by
  unfold cutL
  rw [sIx_neg (by omega), HT.sIx_none]
  have e : (-(k : Int) + (l.length : Int)).toNat = l.length - k := by omega
  rw [e, List.take_of_length_le (by rw [List.length_drop]; omega)]
theorem cutL_negs {α : Type} (l : List α) (i j : Nat) (h0 : 0 < i) (h1 : 0 < j) : cutL l (some (-(i : Int))) (some (-(j : Int))) = (l.take (l.length - j)).drop (l.length - i) := by
  unfold cutL
  rw [sIx_neg (by omega), sIx_neg (by omega), List.drop_take]
  have e : (-(i : Int) + (l.length : Int)).toNat = l.length - i := by omega
  have e2 : (-(j : Int) + (l.length : Int)).toNat = l.length - j := by omega
  rw [e, e2]
theorem start2_4 {a b c d : Str} {u v : V} : L2.start [a, b, c, d] [u, v] = [some u, some v, none, none] := rfl
theorem start2_9 {a b c d e f g h i : Str} {u v : V} : L2.start [a, b, c, d, e, f, g, h, i] [u, v] = [some u, some v, none, none, none, none, none, none, none] := rfl
theorem in_tup {K : PySem.W.Frag} (neg : Bool) (x : Tx) (ts : List Tx) {H : Hp} {Q : V → Hp → Prop} {p : Addr} (hp : H p = none) (q : ∀ H', Same H H' → Q (.bl (if neg then !ts.contains x else ts.contains x)) H') : rIn K neg (.str (S x)) (.ref p) (upd H p (.tup (ts.map fun t => .str (S t)))) Q := by
  refine ⟨p, _, rfl, .inr (st_of upd_same), rfl, ?_, ?_⟩
  · rw [List.all_map]
    exact List.all_eq_true.mpr fun _ _ => rfl
  · rw [inV_S]
    exact q _ (same_new hp)
theorem in_lst {K : PySem.W.Frag} (neg : Bool) (x : Tx) (ts : List Tx) {H : Hp} {Q : V → Hp → Prop} {p : Addr} (hp : H p = none) (q : ∀ H', Same H H' → Q (.bl (if neg then !ts.contains x else ts.contains x)) H') : rIn K neg (.str (S x)) (.ref p) (upd H p (.lst (ts.map fun t => .str (S t)))) Q := by
  refine ⟨p, _, rfl, .inl (sq_of upd_same), rfl, ?_, ?_⟩
  · rw [List.all_map]
    exact List.all_eq_true.mpr fun _ _ => rfl
  · rw [inV_S]
    exact q _ (same_new hp)
theorem in_lst' {K : PySem.W.Frag} (neg : Bool) (x : Tx) (ts : List Tx) {H : Hp} {Q : V → Hp → Prop} {p : Addr} (hp : H p = some (.lst (ts.map fun t => .str (S t)))) (q : Q (.bl (if neg then !ts.contains x else ts.contains x)) H) : rIn K neg (.str (S x)) (.ref p) H Q := by
  refine ⟨p, _, rfl, .inl (sq_of hp), rfl, ?_, ?_⟩
  · rw [List.all_map]
    exact List.all_eq_true.mpr fun _ _ => rfl
  · rw [inV_S]
    exact q
theorem inK {X : Cx} {K : PySem.W.Frag} {c : Value → Value → Sem Value} {neg : Bool} (o : OpR X c (rIn X.K neg)) (e : X.K = K) : OpR X c (rIn K neg) := e ▸ o
theorem deepK {X : Cx} {K : PySem.W.Frag} {c : Value → Value → Sem Value} {r : PySem.W.Frag → R2} (o : OpR X c (r X.K)) (e : X.K = K) : OpR X c (r K) := e ▸ o
/-- an if whose ends meet again: M what stands then -/
theorem if_fin {t : TT} {u v : TS} {D : Ends} {σ : L2.St} {H : Hp} (M : L2.St → Hp → Prop) (fin : ∀ σ' H', M σ' H' → D.nx σ' H') (h : ∀ nx' : L2.St → Hp → Prop, (∀ σ' H', M σ' H' → nx' σ' H') → tIfS t u v { D with nx := nx' } σ H) : tIfS t u v D σ H := h D.nx fin
theorem start1_10 {a b c d e f g h i j : Str} {u : V} : L2.start [a, b, c, d, e, f, g, h, i, j] [u] = [some u, none, none, none, none, none, none, none, none, none] := rfl
def tyD : PyData → String
  | .none => "NoneType"
  | .bool _ => "bool"
  | .int _ => "int"
  | .str _ => "str"
  | .list _ => "list"
  | .tuple _ => "tuple"
  | .dict _ => "dict"
theorem ty_seq {K : PySem.W.Frag} {H : Hp} {a : Addr} {xs : List V} (h : SqL K H a xs) : TyX K H (.ref a) (.type "list") := by
  rcases h with (h | ⟨o, h⟩) | ⟨o, its, n, h, c, _⟩
  · exact .base (.lst h)
  · exact .base (.frz h)
  · exact .kList h c
theorem ty_tup {K : PySem.W.Frag} {H : Hp} {a : Addr} {xs : List V} (h : SqT K H a xs) : TyX K H (.ref a) (.type "tuple") := by
  rcases h with (h | ⟨o, h⟩) | ⟨o, its, n, h, c, _⟩
  · exact .base (.tup h)
  · exact .fTuple h
  · exact .kTuple h c
theorem ty_dp {K : PySem.W.Frag} {H : Hp} {v : V} {d : PyData} (h : Dp K H v d) : TyX K H v (.type (tyD d)) := by
  cases h with
  | non => exact .base .non
  | bl b => exact .base (.bl b)
  | int i => exact .base (.int i)
  | str x => exact .base (.str x)
  | lst h _ => exact ty_seq h
  | tup h _ => exact ty_tup h
/-- isinstance of such a value and a built-in class -/
theorem isi {K : PySem.W.Frag} {H : Hp} {v : V} {d : PyData} {n : String} {b : Bool} {Q : VK} (h : Dp K H v d) (e : kitB (tyD d) n = some b) (q : Q (.bl b) H) : rIsi K [v, .ty n] H Q :=
  ⟨v, .ty n, _, _, b, rfl, .ty n, ty_dp h, kit_ty e, q⟩
theorem asc_of {t : Tx} (h : t.all (fun c => decide (c < 128)) = true) : asc t := fun c hc => of_decide_eq_true (List.all_eq_true.mp h c hc)
theorem start3_3 {a b c : Str} {u v x : V} : L2.start [a, b, c] [u, v, x] = [some u, some v, some x] := rfl
theorem start4_4 {a b c d : Str} {u v x y : V} : L2.start [a, b, c, d] [u, v, x, y] = [some u, some v, some x, some y] := rfl
theorem start1_5 {a b c d e : Str} {u : V} : L2.start [a, b, c, d, e] [u] = [some u, none, none, none, none] := rfl
theorem start1_6 {a b c d e f : Str} {u : V} : L2.start [a, b, c, d, e, f] [u] = [some u, none, none, none, none, none] := rfl
theorem start1_7 {a b c d e f g : Str} {u : V} : L2.start [a, b, c, d, e, f, g] [u] = [some u, none, none, none, none, none, none] := rfl
theorem start2_2 {a b : Str} {u v : V} : L2.start [a, b] [u, v] = [some u, some v] := rfl
theorem start2_5 {a b c d e : Str} {u v : V} : L2.start [a, b, c, d, e] [u, v] = [some u, some v, none, none, none] := rfl
theorem ixK_list {X : Cx} {K : PySem.W.Frag} (e : X.K = K) : IxR X (rIxL K) := e ▸ ix_list
theorem ixK_tup {X : Cx} {K : PySem.W.Frag} (e : X.K = K) : IxR X (rIxT K) := e ▸ ix_tup
theorem ixK_seq {X : Cx} {K : PySem.W.Frag} (e : X.K = K) : IxR X (rIx K) := e ▸ ix_seq
theorem slK_list {X : Cx} {K : PySem.W.Frag} (e : X.K = K) : SlR X (rSlL K) := e ▸ sl_list
theorem pt_tint {X : Cx} {a : Expr} {ta : TE} (ha : PE X a ta) (he : ∀ whole, isTrue a X.env whole = (do let v ← whole; standAt a.pos; holding [v] (truthy v))) :
    PT X a (fun σ H Q => ta σ H fun x H' => ∃ i, x = .int i ∧ Q (i != 0) H') := by
  refine ⟨fun pins s σ H Q I h => ?_⟩
  exact isTrue_plain (thn (ha.run pins s σ H _ I h) fun v s1 ⟨x, H1, I1, r1, i, e, q⟩ => tru_ok pins s1 σ H1 x v Q I1 r1 ⟨_, by subst e; exact rfl, q⟩) (he _)
theorem eqvAll_refl : ∀ ds : List PyData, (∀ d ∈ ds, PyData.eqv d d = true) → PyData.eqvAll ds ds = true
  | [], _ => by simp [PyData.eqvAll]
  | d :: r, h => by
    simp only [PyData.eqvAll, Bool.and_eq_true]
    exact ⟨h d List.mem_cons_self, eqvAll_refl r fun e he => h e (List.mem_cons_of_mem _ he)⟩
theorem okD.eqv : ∀ {n : Nat} {d : PyData}, okD n d → PyData.eqv d d = true
  | 0, _, h => h.elim
  | _ + 1, .none, _ => by simp [PyData.eqv]
  | _ + 1, .bool _, _ => by simp [PyData.eqv]
  | _ + 1, .int _, _ => by simp [PyData.eqv]
  | _ + 1, .str _, _ => by simp [PyData.eqv]
  | n + 1, .list ds, h => by
    simp only [PyData.eqv]
    exact eqvAll_refl ds fun d hd => (h.2 d hd).eqv
  | n + 1, .tuple ds, h => by
    simp only [PyData.eqv]
    exact eqvAll_refl ds fun d hd => (h.2 d hd).eqv
  | _ + 1, .dict _, h => h.elim
/-! ### the draws -/
abbrev s_l_take : Stmt := (top 12)
theorem sc_l_take : FnScope ["_law_box", "_law_many", "_law_number"] ["_law_box", "_law_many"] (defScope s_l_take) := ⟨rfl, rfl, rfl, by decide +kernel, rfl, by decide +kernel, by decide +kernel⟩

def sp_take : Sp := fun vs H Q _ => ∃ (b : Addr) (n : Int) (G : Hp), vs = [.ref b, .int n] ∧ 0 < n ∧ n < 1073741824 ∧ Bx b G H ∧ ∀ (r : Nat) H', (r : Int) < n → Bx b G H' → Q (.int r) H'
theorem ok_take {P : Program} {w : World} {K : PySem.W.Frag} {mg : Str → Option Value} {base : Heap} {f : Addr} {fd : FuncData} (F : FunS K "_law_take" s_l_take f fd) : FnOk P w K mg base CX0 1 f fd ["_law_box", "_law_many"] sp_take := by
  refine F.ok sc_l_take (fun vs H Q E h => ?_) (fun cdv A outer s H vs Q E hr h => ?_)
  · obtain ⟨b, n, G, rfl, _⟩ := h
    rfl
  obtain ⟨b, n, G, rfl, h0, h1, B, k'⟩ := h
  have k : ∀ (r : Int) H', 0 ≤ r → r < n → Bx b G H' → Q (.int r) H' := fun r H' h2 h3 B' => by
    have q := k' r.toNat H' (by omega) B'
    rw [Int.toNat_of_nonneg h2] at q
    exact q
  refine ⟨_, PSs.nox (pss_cons (ps_if (pt_cmpR (op_eqD hr.units) (pe_ix ix_list (pv 0) pe_int (fun _ _ => rfl)) (pe_lst pa_nil) (nomark _))
    (pss_cons (ps_asg (pe_op op_mod (pe_op op_mul (pe_ix ix_list (pv 0) pe_int (fun _ _ => rfl)) pe_int) pe_int) (pg_sub (pv 0) pe_int set_list))
  (pss_one (ps_ret (pe_op op_mod (pe_op op_fdiv (pe_ix ix_list (pv 0) pe_int (fun _ _ => rfl)) pe_int) (pv 1)))))
    pss_nil)
  (pss_cons (ps_set (i := 2) sc_l_take.nd rfl (.inl rfl) (pe_ix ix_list (pe_ix ix_list (pv 0) pe_int (fun _ _ => rfl)) pe_int (fun _ _ => rfl)))
  (pss_cons (ps_asg (pe_op op_fdivN (pv 2) (pv 1)) (pg_sub (pe_ix ix_list (pv 0) pe_int (fun _ _ => rfl)) pe_int set_list))
  (pss_cons (ps_if (PW.pt (pw_or (pt_cmpR op_eq (pe_ix ix_list (pe_ix ix_list (pv 0) pe_int (fun _ _ => rfl)) pe_int (fun _ _ => rfl)) pe_int (nomark _)) (pw_or1 (pt_cmpR op_eq (pe_ix ix_list (pe_ix ix_list (pv 0) pe_int (fun _ _ => rfl)) pe_int (fun _ _ => rfl)) (pe_un un_neg pe_int) (nomark _)))))
    (pss_one (ps_expr (pe_bm PySem.F.plainAttrs_list PySem.F.slot_list_pop PySem.F.type_list_pop mt_popAt (pe_ix ix_list (pv 0) pe_int (fun _ _ => rfl)) (pa_cons pe_int pa_nil))))
    pss_nil)
  (pss_one (ps_ret (pe_op op_mod (pv 2) (pv 1)))))))), ?_⟩
  obtain ⟨sm, gb, l, ns, s, gl, hb, hl, s0, s1⟩ := B
  simp only [tSeq, tAsg, tAnd, tOr, tNot, tTest, tB, tOp, tUn, tCB, tCons, tNil, tVar, tC, gName, rI0, rI, rU, rEq, rNe, rIxS, rIxL, rIxT, tRet, tRetN, tTup, tLst, tSl, tPart, tNoPart, rSlS, tIf, tIfS, tNext, tDrop, tCall, tBM, tBM0, tAndV, tOrV, tNotV, tM0, tM1, gSub, rSetL, sFld, gCons_eq, gNil_eq, tDGet, sDPut, tMeth, tMake, tFld, tChain, tIsN, tNotN,
  List.set_cons_zero, List.set_cons_succ, exists_eq_left', exists_eq_left, exists_eq, V.int.injEq, V.str.injEq, V.bl.injEq, V.ref.injEq, List.cons.injEq, and_true, true_and, List.getElem?_cons_zero, List.getElem?_cons_succ, Option.some.injEq, List.append_nil, exists_and_left, cxOf_K, false_and, and_false, exists_false, false_or, or_false, exists_eq', exists_const, sg_eq, S_eq, S_toList, S_ne, tFor_eq, tLc_eq, iList_eq, iTup_eq, iRng1_eq, iStr_eq, decide_eq_true_eq, Bool.not_eq_true', decide_eq_false_iff_not, if_true, if_false, Bool.false_eq_true, reduceCtorEq, Bool.true_eq_false, decide_true, decide_false, start2]
  have nlb : l ≠ b := ne_of hl hb (by
    intro q
    cases ns with
    | nil => cases q
    | cons n r => cases q)
  refine ⟨_, sq_of hb, _, rfl, Nat.zero_le _, ?_⟩
  (intro p np; generalize hqp : upd H p _ = H1; obtain ⟨e1, hp⟩ := al_ np hqp; clear hqp)
  have hb1 := e1 _ _ hb
  have hl1 := e1 _ _ hl
  refine ⟨_, _, .lst (sq_of hl1) (dp_ints ns), .lst (sq_of hp) .nil, shaped_ints ns, rfl, _, rfl, ?_⟩
  rw [eqv_nil]
  cases ns with
  | nil =>
    simp only [List.map_nil, List.isEmpty_nil, if_true]
    refine ⟨_, sq_of hb1, _, rfl, _, rfl, .inl ⟨by omega, by omega⟩, by decide, _, hb1, _, rfl, _, sq_of upd_same, _, rfl, _, rfl, ⟨by decide, by decide⟩, h0, ?_⟩
    refine k _ _ (Int.emod_nonneg _ (by omega)) (Int.emod_lt_of_pos _ h0) ⟨fun a u e => ?_, gb, l, [], _, gl, upd_same, ?_, Int.emod_nonneg _ (by decide), Int.emod_lt_of_pos _ (by decide)⟩
    · rw [upd_ne (ne_of_none e gb)]
      exact e1 _ _ (sm _ _ e)
    · rw [upd_ne nlb]
      exact hl1
  | cons z r =>
    simp only [List.map_cons, List.isEmpty_cons, Bool.false_eq_true, if_false] at hl1 ⊢
    refine ⟨_, sq_of hb1, _, rfl, _, rfl, _, sq_of hl1, _, at0 _ _, _, rfl, ⟨by omega, by omega⟩, ?_⟩
    refine ⟨_, sq_of hb1, _, rfl, _, rfl, _, hl1, _, ix0 _, ?_⟩
    have hb2 : upd H1 l (.lst (V.int (z.fdiv n) :: List.map V.int r)) b = some (.lst [.ref l, .int s]) := by
      rw [upd_ne nlb.symm]
      exact hb1
    have fr : ∀ (xs : List V) a u, G a = some u → upd H1 l (.lst xs) a = some u := fun xs a u e => by
      rw [upd_ne (ne_of_none e gl)]
      exact e1 _ _ (sm _ _ e)
    have fin : ∀ (ms : List Int) (H' : Hp), H' = upd H1 l (.lst (ms.map V.int)) → Q (.int (z % n)) H' := fun ms H' e => by
      subst e
      refine k _ _ (Int.emod_nonneg _ (by omega)) (Int.emod_lt_of_pos _ h0) ⟨fr _, gb, l, ms, s, gl, ?_, upd_same, s0, s1⟩
      rw [upd_ne nlb.symm]
      exact hb1
    refine ⟨_, sq_of hb2, _, rfl, _, rfl, _, sq_of upd_same, _, at0 _ _, rfl, ?_⟩
    simp only [List.set_cons_zero]
    refine ite2 (fun hz => ?_) (fun hz => ?_)
    · refine ⟨_, sq_of hb2, _, rfl, .inl ⟨rfl, _, sq_of upd_same⟩, l, _, 0, 0, _, rfl, rfl, upd_same, by decide, by decide, ?_, rfl, _, rfl, h0, fin r _ ?_⟩
      · simp [seqIndex?]
      · rw [upd_upd]
        rfl
    · refine ⟨_, sq_of hb2, _, rfl, _, rfl, _, sq_of upd_same, _, at0 _ _, rfl, ?_⟩
      refine ite2 (fun hz => ?_) (fun hz => ?_)
      · refine ⟨_, sq_of hb2, _, rfl, .inl ⟨rfl, _, sq_of upd_same⟩, l, _, 0, 0, _, rfl, rfl, upd_same, by decide, by decide, ?_, rfl, _, rfl, h0, fin r _ ?_⟩
        · simp [seqIndex?]
        · rw [upd_upd]
          rfl
      · exact ⟨_, rfl, h0, fin (z.fdiv n :: r) _ rfl⟩
theorem take_ {b : Addr} {n : Int} {G H : Hp} {Q : VK} {E : XK} (B : Bx b G H) (h0 : 0 < n) (h1 : n < 1073741824) (k : ∀ (r : Nat) H', (r : Int) < n → Bx b G H' → Q (.int r) H') : sp_take [.ref b, .int n] H Q E := ⟨b, n, G, rfl, h0, h1, B, k⟩
/-- "..".join(["signs"[take(box, m)] for k in range(n)]): the list of signs -/
theorem signs_draw {n j : Nat} {b : Addr} {G H : Hp} {te : TE} {vs : List Nat} {σ : L2.St} {L : Addr} {Q : VK} (p : Nat → Prop) (hz : n ≤ 1000000) (B : Bx b G H) (hL : H L = none)
    (hw : ∀ x, wipe ((wipe σ vs).set j (some x)) vs = wipe σ vs)
    (hs : ∀ (i : Nat) G' H' (Q' : VK), i < n → Same G G' → Bx b G' H' → (∀ c G2 H2, Same G' G2 → Bx b G2 H2 → p c → Q' (.str (S [c])) H2) → te ((wipe σ vs).set j (some (.int i))) H' Q')
    (hd : ∀ (cs : Tx) G' H', Same G G' → Bx b G' H' → G' L = some (.lst ((cs.map fun c => S [c]).map V.str)) → cs.length = n → (∀ c ∈ cs, p c) → Q (.ref L) H') : CompP (Itr 0 n) (gName j) tYes te vs σ L Q (upd H L (.lst [])) := by
  refine comp_draw (fun v _ => ∃ c, p c ∧ v = .str (S [c])) (fun _ _ _ _ h => h) hz B hL hw (fun i G' H' Q' hi s1 B1 q => hs i G' H' Q' hi s1 B1 fun c G2 H2 s2 B2 pc => q _ G2 H2 s2 B2 ⟨c, pc, rfl⟩) ?_
  intro acc G' H' s1 B1 hl hlen hp
  obtain ⟨cs, e, hc⟩ : ∃ cs : Tx, acc = (cs.map fun c => S [c]).map V.str ∧ ∀ c ∈ cs, p c := by
    clear hl hlen
    induction acc with
    | nil => exact ⟨[], rfl, fun _ h => nomatch h⟩
    | cons v r ih =>
      obtain ⟨cs, e, hc⟩ := ih fun v hv => hp v (List.mem_cons_of_mem _ hv)
      obtain ⟨c, pc, ev⟩ := hp v List.mem_cons_self
      refine ⟨c :: cs, by rw [e, ev]; rfl, fun d hd => ?_⟩
      rcases List.mem_cons.mp hd with h | h
      · rw [h]
        exact pc
      · exact hc d h
  subst e
  exact hd cs G' H' s1 B1 hl (by simpa using hlen) hc
theorem join_signs (cs : Tx) : Txt.join (S []) (cs.map fun c => S [c]) = S cs := by
  have e : (cs.map fun c => S [c]) = (cs.map fun c => [c]).map SX.S := by rw [List.map_map]; rfl
  rw [e]
  refine (SX.join_S [] _).trans (congrArg SX.S ?_)
  have h : ∀ (a : Tx), TL.joinL [] (a.map fun c => [c]) = a := fun a => by
    induction a with
    | nil => rfl
    | cons x r ih =>
      cases r with
      | nil => rfl
      | cons y t =>
        show [x] ++ ([] ++ TL.joinL [] ((y :: t).map fun c => [c])) = x :: y :: t
        rw [ih]
        rfl
  exact h cs
theorem signs_size (cs : Tx) (h : cs.length ≤ 1000000) : ((cs.map fun c => S [c]).map (·.length)).sum + (cs.map fun c => S [c]).length * (S []).length ≤ 16777216 := by
  have e : ((cs.map fun c => S [c]).map (·.length)).sum = cs.length := by
    clear h
    induction cs with
    | nil => rfl
    | cons c r ih =>
      rw [List.map_cons, List.map_cons, List.sum_cons, ih, S_len, List.length_cons]
      simp only [List.length_cons, List.length_nil]
      omega
  rw [e, S_len]
  simp only [List.length_nil, Nat.mul_zero, Nat.add_zero]
  omega
abbrev s_l_begun : Stmt := (top 11)
theorem sc_l_begun : FnScope ["_law_script", "_law_stirred", "_law_cell"] ["_law_script"] (defScope s_l_begun) := ⟨rfl, rfl, rfl, by decide +kernel, rfl, by decide +kernel, by decide +kernel⟩

def sp_begun (K : PySem.W.Frag) : Sp := fun vs H Q _ => ∃ (a : Addr) (ns : List Int), vs = [.ref a] ∧ SqL K H a (ns.map V.int) ∧ ns.length ≤ 63 ∧ ∀ b G H', Same H G → Bx b G H' → Q (.ref b) H'
section
variable {P : Program} {w : World} {K : PySem.W.Frag} {mg : Str → Option Value} {base : Heap}
theorem ok_begun {f : Addr} {fd : FuncData} (F : FunS K "_law_begun" s_l_begun f fd) (b_int : mg "int" = none) (b_len : mg "len" = none) (b_list : mg "list" = none) : FnOk P w K mg base CX0 1 f fd ["_law_script"] (sp_begun K) := by
  refine F.ok sc_l_begun (fun vs H Q E h => ?_) (fun cdv A outer s H vs Q E hr h => ?_)
  · obtain ⟨a, ns, rfl, _⟩ := h
    rfl
  obtain ⟨a, ns, rfl, hS, hn, k⟩ := h
  refine ⟨_, PSs.nox (pss_cons (ps_set (i := 1) sc_l_begun.nd rfl (.inl rfl) pe_int)
  (pss_cons (ps_for PassesOwn.never rfl (pi_list (pv 0)) (pg_name (i := 2) sc_l_begun.nd rfl (.inl rfl))
    (pss_one (ps_set (i := 1) sc_l_begun.nd rfl (.inl rfl) (pe_op op_mod (pe_op op_add (pe_op op_add (pe_op op_mul (pv 1) pe_int) (pe_op op_mul (pv 2) pe_int)) pe_int) pe_int))))
  (pss_one (ps_ret (pe_lst (pa_cons (pe_callTy call_list_of (by rfl) b_list (by decide +kernel) (pa_cons (pv 0) pa_nil)) (pa_cons (pe_op op_mul (pv 1) (pe_callTy call_int1 (by rfl) b_int (by decide +kernel) (pa_cons (pe_cmpR op_gt (pe_callB call_len_seq (by rfl) b_len PySem.boot_len (pa_cons (pv 0) pa_nil)) pe_int (nomark _)) pa_nil))) pa_nil))))))), ?_⟩
  simp only [tSeq, tAsg, tAnd, tOr, tNot, tTest, tB, tOp, tUn, tCB, tCons, tNil, tVar, tC, gName, rI0, rI, rU, rEq, rNe, rIxS, rIxL, rIxT, tRet, tRetN, tTup, tLst, tSl, tPart, tNoPart, rSlS, tIf, tIfS, tNext, tDrop, tCall, tBM, tBM0, tAndV, tOrV, tNotV, tM0, tM1, gSub, rSetL, sFld, gCons_eq, gNil_eq, tDGet, sDPut, tMeth, tMake, tFld, tChain, tIsN, tNotN,
  List.set_cons_zero, List.set_cons_succ, exists_eq_left', exists_eq_left, exists_eq, V.int.injEq, V.str.injEq, V.bl.injEq, V.ref.injEq, List.cons.injEq, and_true, true_and, List.getElem?_cons_zero, List.getElem?_cons_succ, Option.some.injEq, List.append_nil, exists_and_left, cxOf_K, false_and, and_false, exists_false, false_or, or_false, exists_eq', exists_const, sg_eq, S_eq, S_toList, S_ne, tFor_eq, tLc_eq, iList_eq, iTup_eq, iRng1_eq, iStr_eq, decide_eq_true_eq, Bool.not_eq_true', decide_eq_false_iff_not, if_true, if_false, Bool.false_eq_true, reduceCtorEq, Bool.true_eq_false, decide_true, decide_false, start1_3]
  refine ⟨⟨_, hS⟩, loop_list (ns.map V.int) (fun r σ H' => ∃ (i : Int) (z : Option V) (ms : List Int), r = ms.map V.int ∧ σ = [some (.ref a), some (.int i), z] ∧ H' = H ∧ 0 ≤ i ∧ i < 2147483647) ⟨0, none, ns, rfl, rfl, rfl, by decide, by decide⟩ ?_ ?_ ?_⟩
  · rintro r σ H' ⟨i, z, ms, rfl, rfl, rfl, h0, h1⟩
    exact hS
  · rintro x r σ H' ⟨i, z, ms, e, rfl, rfl, h0, h1⟩
    cases ms with
    | nil => cases e
    | cons m ms =>
      simp only [List.map_cons, List.cons.injEq] at e
      obtain ⟨rfl, rfl⟩ := e
      simp only [tSeq, tAsg, tAnd, tOr, tNot, tTest, tB, tOp, tUn, tCB, tCons, tNil, tVar, tC, gName, rI0, rI, rU, rEq, rNe, rIxS, rIxL, rIxT, tRet, tRetN, tTup, tLst, tSl, tPart, tNoPart, rSlS, tIf, tIfS, tNext, tDrop, tCall, tBM, tBM0, tAndV, tOrV, tNotV, tM0, tM1, gSub, rSetL, sFld, gCons_eq, gNil_eq, tDGet, sDPut, tMeth, tMake, tFld, tChain, tIsN, tNotN,
  List.set_cons_zero, List.set_cons_succ, exists_eq_left', exists_eq_left, exists_eq, V.int.injEq, V.str.injEq, V.bl.injEq, V.ref.injEq, List.cons.injEq, and_true, true_and, List.getElem?_cons_zero, List.getElem?_cons_succ, Option.some.injEq, List.append_nil, exists_and_left, cxOf_K, false_and, and_false, exists_false, false_or, or_false, exists_eq', exists_const, sg_eq, S_eq, S_toList, S_ne, tFor_eq, tLc_eq, iList_eq, iTup_eq, iRng1_eq, iStr_eq, decide_eq_true_eq, Bool.not_eq_true', decide_eq_false_iff_not, if_true, if_false, Bool.false_eq_true, reduceCtorEq, Bool.true_eq_false, decide_true, decide_false]
      refine ⟨.inl ⟨by omega, by omega⟩, .inr ⟨by decide, by decide⟩, by decide, ?_⟩
      exact ⟨_, _, ms, rfl, ⟨rfl, rfl⟩, Int.emod_nonneg _ (by decide), Int.emod_lt_of_pos _ (by decide)⟩
  · rintro σ H' ⟨i, z, ms, e, rfl, rfl, h0, h1⟩
    simp only [tSeq, tAsg, tAnd, tOr, tNot, tTest, tB, tOp, tUn, tCB, tCons, tNil, tVar, tC, gName, rI0, rI, rU, rEq, rNe, rIxS, rIxL, rIxT, tRet, tRetN, tTup, tLst, tSl, tPart, tNoPart, rSlS, tIf, tIfS, tNext, tDrop, tCall, tBM, tBM0, tAndV, tOrV, tNotV, tM0, tM1, gSub, rSetL, sFld, gCons_eq, gNil_eq, tDGet, sDPut, tMeth, tMake, tFld, tChain, tIsN, tNotN,
  List.set_cons_zero, List.set_cons_succ, exists_eq_left', exists_eq_left, exists_eq, V.int.injEq, V.str.injEq, V.bl.injEq, V.ref.injEq, List.cons.injEq, and_true, true_and, List.getElem?_cons_zero, List.getElem?_cons_succ, Option.some.injEq, List.append_nil, exists_and_left, cxOf_K, false_and, and_false, exists_false, false_or, or_false, exists_eq', exists_const, sg_eq, S_eq, S_toList, S_ne, tFor_eq, tLc_eq, iList_eq, iTup_eq, iRng1_eq, iStr_eq, decide_eq_true_eq, Bool.not_eq_true', decide_eq_false_iff_not, if_true, if_false, Bool.false_eq_true, reduceCtorEq, Bool.true_eq_false, decide_true, decide_false]
    refine ⟨_, .inl hS, ?_⟩
    (intro l nl; generalize hql : upd H' l _ = H1; obtain ⟨e1, f1⟩ := al_ nl hql; clear hql)
    refine ⟨_, .inl (same_l e1 hS), ?_⟩
    refine ⟨.inl ⟨by omega, by omega⟩, (size_le (by simp only [List.length_cons, List.length_nil]; decide)), ?_⟩
    (intro b nb; generalize hqb : upd H1 b _ = H2; obtain ⟨e2, f2⟩ := al_ nb hqb; clear hqb)
    have nlb : l ≠ b := ne_of_none f1 nb
    refine k b H' H2 (Same.refl _) ⟨e1.trans e2, e1.free nb, l, ns, _, nl, f2, e2 _ _ f1, ?_, ?_⟩
    · split <;> omega
    · split <;> omega
end
/-! ### words, endings -/
theorem Bx.weak {b : Addr} {G G' H : Hp} (s : Same G G') (B : Bx b G' H) : Bx b G H := by
  obtain ⟨s0, gb, l, ns, t, gl, r⟩ := B
  exact ⟨s.trans s0, s.free gb, l, ns, t, s.free gl, r⟩
theorem Bx.same {b : Addr} {G H H' : Hp} (B : Bx b G H) (s : Same H H') : Bx b G H' := by
  obtain ⟨s0, gb, l, ns, t, gl, hb, hl, r⟩ := B
  exact ⟨s0.trans s, gb, l, ns, t, gl, s _ _ hb, s _ _ hl, r⟩
/-- a word's signs: small letters, figures, ' and - -/
def wsign (c : Nat) : Bool := (97 ≤ c && c ≤ 122) || (48 ≤ c && c ≤ 57) || c == 39 || c == 45
def wordOk (t : Tx) : Prop := 1 ≤ t.length ∧ t.length ≤ 16 ∧ ∀ c ∈ t, wsign c = true
theorem wsign_lt {c : Nat} (h : wsign c = true) : c < 128 := by
  simp only [wsign, Bool.or_eq_true, Bool.and_eq_true, decide_eq_true_eq, beq_iff_eq] at h
  omega
def sp_word : Sp := fun vs H Q _ => ∃ (b : Addr) (G : Hp), vs = [.ref b] ∧ Bx b G H ∧ ∀ (t : Tx) H', wordOk t → Bx b G H' → Q (.str (S t)) H'
abbrev s_l_word : Stmt := (top 16)
theorem sc_l_word : FnScope ["_law_box", "_law_some", "_law_many", "_law_k"] ["_law_box"] (defScope s_l_word) := ⟨rfl, rfl, rfl, by decide +kernel, rfl, by decide +kernel, by decide +kernel⟩

section
variable {P : Program} {w : World} {K : PySem.W.Frag} {mg : Str → Option Value} {base : Heap}
theorem ok_word {f : Addr} {fd : FuncData} (F : FunS K "_law_word" s_l_word f fd) (b_len : mg "len" = none) (b_range : mg "range" = none) (c_l_take : Cal P w K mg base CX0 1 "_law_take" sp_take) : FnOk P w K mg base CX0 2 f fd ["_law_box"] sp_word := by
  refine F.ok sc_l_word (fun vs H Q E h => ?_) (fun cdv A outer s H vs Q E hr h => ?_)
  · obtain ⟨b, G, rfl, _⟩ := h
    rfl
  obtain ⟨b, G, rfl, B, k⟩ := h
  refine ⟨_, PSs.nox (pss_cons (ps_set (i := 1) sc_l_word.nd rfl (.inr rfl) (pe_ix ix_list (pe_lst (pa_cons pe_str (pa_cons pe_str (pa_cons pe_str pa_nil)))) (pe_c c_l_take hr (by first | decide | omega) (by rfl) (pa_cons (pv 0) (pa_cons pe_int pa_nil))) (fun _ _ => rfl)))
  (pss_cons (ps_set (i := 2) sc_l_word.nd rfl (.inl rfl) (pe_op op_add pe_int (pe_c c_l_take hr (by first | decide | omega) (by rfl) (pa_cons (pv 0) (pa_cons pe_int pa_nil)))))
  (pss_cons (ps_if (pt_cmpR op_eq (pe_c c_l_take hr (by first | decide | omega) (by rfl) (pa_cons (pv 0) (pa_cons pe_int pa_nil))) pe_int (nomark _))
    (pss_one (ps_set (i := 2) sc_l_word.nd rfl (.inl rfl) (pe_op op_add pe_int (pe_c c_l_take hr (by first | decide | omega) (by rfl) (pa_cons (pv 0) (pa_cons pe_int pa_nil))))))
    pss_nil)
  (pss_one (ps_ret (pe_join pe_str (pe_lc (own := [("_law_k", 3)]) rfl sc_l_word.nd (pi_range1 (by rfl) b_range (pa_cons (pv 2) pa_nil)) (blkOk_by (N := ["_law_box", "_law_some", "_law_many", "_law_k"]) (sc := defScope s_l_word) (own := [("_law_k", 3)]) (by decide +kernel)) (fun _ _ _ _ _ => (pg_name (i := 3) sc_l_word.nd rfl (.inl rfl))) (fun _ _ _ _ _ => pts_nil) (fun _ _ _ _ _ => (pe_ix ix_str (pv 1) (pe_c c_l_take hr (by first | decide | omega) (by rfl) (pa_cons (pv 0) (pa_cons (pe_callB call_len_str (by rfl) b_len PySem.boot_len (pa_cons (pv 1) pa_nil)) pa_nil))) (fun _ _ => rfl)))))))))), ?_⟩
  simp only [tSeq, tAsg, tAnd, tOr, tNot, tTest, tB, tOp, tUn, tCB, tCons, tNil, tVar, tC, gName, rI0, rI, rU, rEq, rNe, rIxS, rIxL, rIxT, tRet, tRetN, tTup, tLst, tSl, tPart, tNoPart, rSlS, tIf, tIfS, tNext, tDrop, tCall, tBM, tBM0, tAndV, tOrV, tNotV, tM0, tM1, gSub, rSetL, sFld, gCons_eq, gNil_eq, tDGet, sDPut, tMeth, tMake, tFld, tChain, tIsN, tNotN,
  List.set_cons_zero, List.set_cons_succ, exists_eq_left', exists_eq_left, exists_eq, V.int.injEq, V.str.injEq, V.bl.injEq, V.ref.injEq, List.cons.injEq, and_true, true_and, List.getElem?_cons_zero, List.getElem?_cons_succ, Option.some.injEq, List.append_nil, exists_and_left, cxOf_K, false_and, and_false, exists_false, false_or, or_false, exists_eq', exists_const, sg_eq, S_eq, S_toList, S_ne, tFor_eq, tLc_eq, iList_eq, iTup_eq, iRng1_eq, iStr_eq, decide_eq_true_eq, Bool.not_eq_true', decide_eq_false_iff_not, if_true, if_false, Bool.false_eq_true, reduceCtorEq, Bool.true_eq_false, decide_true, decide_false, lit_97_101_105_111_117_115_116_120_121_122, lit_97_98_99_100_101_102_103_104_105_106_107_108_109_110_111_112_113_114_115_116_117_118_119_120_121_122, lit_97_101_104_110_114_115_119_121_48_49_50_51_52_53_54_55_56_57_39_45, lit_, start1_4]
  refine ⟨(size_le (by simp only [List.length_cons, List.length_nil]; decide)), ?_⟩
  (intro p np; generalize hqp : upd _ p _ = H1; obtain ⟨G1, gp, e1, B1, f1⟩ := alB_ B np hqp; clear hqp np)
  refine take_ B1 (by decide) (by decide) fun r1 H2 hr1 B2 => ?_
  simp only [tSeq, tAsg, tAnd, tOr, tNot, tTest, tB, tOp, tUn, tCB, tCons, tNil, tVar, tC, gName, rI0, rI, rU, rEq, rNe, rIxS, rIxL, rIxT, tRet, tRetN, tTup, tLst, tSl, tPart, tNoPart, rSlS, tIf, tIfS, tNext, tDrop, tCall, tBM, tBM0, tAndV, tOrV, tNotV, tM0, tM1, gSub, rSetL, sFld, gCons_eq, gNil_eq, tDGet, sDPut, tMeth, tMake, tFld, tChain, tIsN, tNotN,
  List.set_cons_zero, List.set_cons_succ, exists_eq_left', exists_eq_left, exists_eq, V.int.injEq, V.str.injEq, V.bl.injEq, V.ref.injEq, List.cons.injEq, and_true, true_and, List.getElem?_cons_zero, List.getElem?_cons_succ, Option.some.injEq, List.append_nil, exists_and_left, cxOf_K, false_and, and_false, exists_false, false_or, or_false, exists_eq', exists_const, sg_eq, S_eq, S_toList, S_ne, tFor_eq, tLc_eq, iList_eq, iTup_eq, iRng1_eq, iStr_eq, decide_eq_true_eq, Bool.not_eq_true', decide_eq_false_iff_not, if_true, if_false, Bool.false_eq_true, reduceCtorEq, Bool.true_eq_false, decide_true, decide_false]
  obtain ⟨cs, hcs, hin, hlen⟩ : ∃ cs : Tx, atI [V.str (S [97, 101, 105, 111, 117, 115, 116, 120, 121, 122]), V.str (S [97, 98, 99, 100, 101, 102, 103, 104, 105, 106, 107, 108, 109, 110, 111, 112, 113, 114, 115, 116, 117, 118, 119, 120, 121, 122]), V.str (S [97, 101, 104, 110, 114, 115, 119, 121, 48, 49, 50, 51, 52, 53, 54, 55, 56, 57, 39, 45])] (r1 : Int) = some (.str (S cs)) ∧ (∀ c ∈ cs, wsign c = true) ∧ 0 < cs.length ∧ cs.length < 100 := by
    match r1, hr1 with
    | 0, _ => exact ⟨_, rfl, by decide, by decide, by decide⟩
    | 1, _ => exact ⟨_, rfl, by decide, by decide, by decide⟩
    | 2, _ => exact ⟨_, rfl, by decide, by decide, by decide⟩
    | n + 3, h => exact absurd h (by omega)
  refine ⟨_, sq_of (B2.ex _ _ f1), _, hcs, ?_⟩
  -- the rest, from a number of signs on
  have fin : ∀ (m : Nat) (x : Int) (H3 : Hp), x = (m : Int) → 1 ≤ m → m ≤ 16 → Bx b G1 H3 → -2 ^ 62 ≤ x ∧ x < 2 ^ 62 ∧ ∀ L, H3 L = none →
      CompP (Itr 0 x.toNat) (gName 3) tYes (tOp rIxS (tVar 1) (tCall sp_take [] E0 (tCons (tVar 0) (tCons (tCB (fun xs H Q => ∃ z, xs = [.str z] ∧ z.length ≤ sizeLine ∧ Q (.int z.length) H) (tCons (tVar 1) tNil)) tNil))))
        (List.map (fun x => x.snd) [(Str.ofString "_law_k", 3)]) [some (.ref b), some (.str (S cs)), some (.int x), none] L
        (fun y H2 => ∃ x, y = .ref x ∧ ∃ z : List Str, (SqL K H2 x (z.map V.str) ∨ SqT K H2 x (z.map V.str)) ∧ (z.map (fun x => x.length)).sum + z.length * (S []).length ≤ 16777216 ∧ Q (.str (Txt.join (S []) z)) H2)
        (upd H3 L (.lst [])) := by
    intro m x H3 ex h1 h16 B3
    subst ex
    refine ⟨by omega, by omega, fun L hL => ?_⟩
    rw [Int.toNat_natCast]
    refine signs_draw (fun c => wsign c = true) (by omega) B3 hL (fun _ => rfl) (fun i G' H' Q' _ _ B q => ?_) ?_
    · simp only [wipe, List.map_cons, List.map_nil, List.set_cons_succ, List.set_cons_zero, tSeq, tAsg, tAnd, tOr, tNot, tTest, tB, tOp, tUn, tCB, tCons, tNil, tVar, tC, gName, rI0, rI, rU, rEq, rNe, rIxS, rIxL, rIxT, tRet, tRetN, tTup, tLst, tSl, tPart, tNoPart, rSlS, tIf, tIfS, tNext, tDrop, tCall, tBM, tBM0, tAndV, tOrV, tNotV, tM0, tM1, gSub, rSetL, sFld, gCons_eq, gNil_eq, tDGet, sDPut, tMeth, tMake, tFld, tChain, tIsN, tNotN,
  List.set_cons_zero, List.set_cons_succ, exists_eq_left', exists_eq_left, exists_eq, V.int.injEq, V.str.injEq, V.bl.injEq, V.ref.injEq, List.cons.injEq, and_true, true_and, List.getElem?_cons_zero, List.getElem?_cons_succ, Option.some.injEq, List.append_nil, exists_and_left, cxOf_K, false_and, and_false, exists_false, false_or, or_false, exists_eq', exists_const, sg_eq, S_eq, S_toList, S_ne, tFor_eq, tLc_eq, iList_eq, iTup_eq, iRng1_eq, iStr_eq, decide_eq_true_eq, Bool.not_eq_true', decide_eq_false_iff_not, if_true, if_false, Bool.false_eq_true, reduceCtorEq, Bool.true_eq_false, decide_true, decide_false]
      refine ⟨size_le (by rw [S_len]; omega), take_ B (by rw [S_len]; omega) (by rw [S_len]; omega) fun r H4 hr B4 => ?_⟩
      rw [S_len] at hr
      simp only [tSeq, tAsg, tAnd, tOr, tNot, tTest, tB, tOp, tUn, tCB, tCons, tNil, tVar, tC, gName, rI0, rI, rU, rEq, rNe, rIxS, rIxL, rIxT, tRet, tRetN, tTup, tLst, tSl, tPart, tNoPart, rSlS, tIf, tIfS, tNext, tDrop, tCall, tBM, tBM0, tAndV, tOrV, tNotV, tM0, tM1, gSub, rSetL, sFld, gCons_eq, gNil_eq, tDGet, sDPut, tMeth, tMake, tFld, tChain, tIsN, tNotN,
  List.set_cons_zero, List.set_cons_succ, exists_eq_left', exists_eq_left, exists_eq, V.int.injEq, V.str.injEq, V.bl.injEq, V.ref.injEq, List.cons.injEq, and_true, true_and, List.getElem?_cons_zero, List.getElem?_cons_succ, Option.some.injEq, List.append_nil, exists_and_left, cxOf_K, false_and, and_false, exists_false, false_or, or_false, exists_eq', exists_const, sg_eq, S_eq, S_toList, S_ne, tFor_eq, tLc_eq, iList_eq, iTup_eq, iRng1_eq, iStr_eq, decide_eq_true_eq, Bool.not_eq_true', decide_eq_false_iff_not, if_true, if_false, Bool.false_eq_true, reduceCtorEq, Bool.true_eq_false, decide_true, decide_false]
      have h3 : r < cs.length := by omega
      exact ⟨size_le (by rw [S_len]; omega), _, atI_nat (List.getElem?_eq_getElem h3), q _ _ _ (Same.refl _) B4 (hin _ (List.getElem_mem _))⟩
    · intro t G' H' s' B' hl ht hp
      refine ⟨L, rfl, _, .inl (sq_of (B'.ex _ _ hl)), signs_size t (by omega), ?_⟩
      rw [join_signs]
      exact k t H' ⟨by omega, by omega, hp⟩ (B'.weak (e1.trans s'))
  refine take_ B2 (by decide) (by decide) fun r2 H3 hr2 B3 => ?_
  simp only [tSeq, tAsg, tAnd, tOr, tNot, tTest, tB, tOp, tUn, tCB, tCons, tNil, tVar, tC, gName, rI0, rI, rU, rEq, rNe, rIxS, rIxL, rIxT, tRet, tRetN, tTup, tLst, tSl, tPart, tNoPart, rSlS, tIf, tIfS, tNext, tDrop, tCall, tBM, tBM0, tAndV, tOrV, tNotV, tM0, tM1, gSub, rSetL, sFld, gCons_eq, gNil_eq, tDGet, sDPut, tMeth, tMake, tFld, tChain, tIsN, tNotN,
  List.set_cons_zero, List.set_cons_succ, exists_eq_left', exists_eq_left, exists_eq, V.int.injEq, V.str.injEq, V.bl.injEq, V.ref.injEq, List.cons.injEq, and_true, true_and, List.getElem?_cons_zero, List.getElem?_cons_succ, Option.some.injEq, List.append_nil, exists_and_left, cxOf_K, false_and, and_false, exists_false, false_or, or_false, exists_eq', exists_const, sg_eq, S_eq, S_toList, S_ne, tFor_eq, tLc_eq, iList_eq, iTup_eq, iRng1_eq, iStr_eq, decide_eq_true_eq, Bool.not_eq_true', decide_eq_false_iff_not, if_true, if_false, Bool.false_eq_true, reduceCtorEq, Bool.true_eq_false, decide_true, decide_false]
  refine take_ B3 (by decide) (by decide) fun r3 H4 hr3 B4 => ⟨rfl, ite2 (fun _ => ?_) (fun _ => ?_)⟩
  · refine take_ B4 (by decide) (by decide) fun r4 H5 hr4 B5 => ?_
    simp only [tSeq, tAsg, tAnd, tOr, tNot, tTest, tB, tOp, tUn, tCB, tCons, tNil, tVar, tC, gName, rI0, rI, rU, rEq, rNe, rIxS, rIxL, rIxT, tRet, tRetN, tTup, tLst, tSl, tPart, tNoPart, rSlS, tIf, tIfS, tNext, tDrop, tCall, tBM, tBM0, tAndV, tOrV, tNotV, tM0, tM1, gSub, rSetL, sFld, gCons_eq, gNil_eq, tDGet, sDPut, tMeth, tMake, tFld, tChain, tIsN, tNotN,
  List.set_cons_zero, List.set_cons_succ, exists_eq_left', exists_eq_left, exists_eq, V.int.injEq, V.str.injEq, V.bl.injEq, V.ref.injEq, List.cons.injEq, and_true, true_and, List.getElem?_cons_zero, List.getElem?_cons_succ, Option.some.injEq, List.append_nil, exists_and_left, cxOf_K, false_and, and_false, exists_false, false_or, or_false, exists_eq', exists_const, sg_eq, S_eq, S_toList, S_ne, tFor_eq, tLc_eq, iList_eq, iTup_eq, iRng1_eq, iStr_eq, decide_eq_true_eq, Bool.not_eq_true', decide_eq_false_iff_not, if_true, if_false, Bool.false_eq_true, reduceCtorEq, Bool.true_eq_false, decide_true, decide_false]
    exact fin (1 + r4) _ H5 (by omega) (by omega) (by omega) B5
  · exact fin (1 + r2) _ H4 (by omega) (by omega) (by omega) B4
theorem word_ {b : Addr} {G H : Hp} {Q : VK} {E : XK} (B : Bx b G H) (k : ∀ (t : Tx) H', wordOk t → Bx b G H' → Q (.str (S t)) H') : sp_word [.ref b] H Q E := ⟨b, G, rfl, B, k⟩
/-- an ending: a word -/
def sp_ending : Sp := sp_word
abbrev s_l_ending : Stmt := (top 17)
theorem sc_l_ending : FnScope ["_law_box", "_law_some"] ["_law_box"] (defScope s_l_ending) := ⟨rfl, rfl, rfl, by decide +kernel, rfl, by decide +kernel, by decide +kernel⟩

theorem ok_ending {f : Addr} {fd : FuncData} (F : FunS K "_law_ending" s_l_ending f fd) (b_int : mg "int" = none) (c_l_take : Cal P w K mg base CX0 1 "_law_take" sp_take) (c_l_word : Cal P w K mg base CX0 2 "_law_word" sp_word) : FnOk P w K mg base CX0 3 f fd ["_law_box"] sp_ending := by
  refine F.ok sc_l_ending (fun vs H Q E h => ?_) (fun cdv A outer s H vs Q E hr h => ?_)
  · obtain ⟨b, G, rfl, _⟩ := h
    rfl
  obtain ⟨b, G, rfl, B, k⟩ := h
  refine ⟨_, PSs.nox (pss_cons (ps_set (i := 1) sc_l_ending.nd rfl (.inl rfl) (pe_lst (pa_cons pe_str (pa_cons pe_str (pa_cons pe_str (pa_cons pe_str (pa_cons pe_str (pa_cons pe_str (pa_cons pe_str (pa_cons pe_str (pa_cons pe_str (pa_cons pe_str (pa_cons pe_str (pa_cons pe_str pa_nil))))))))))))))
  (pss_one (ps_ret (pe_ix ix_list (pe_lst (pa_cons (pe_ix ix_list (pv 1) (pe_c c_l_take hr (by first | decide | omega) (by rfl) (pa_cons (pv 0) (pa_cons pe_int pa_nil))) (fun _ _ => rfl)) (pa_cons (pe_c c_l_word hr (by first | decide | omega) (by rfl) (pa_cons (pv 0) pa_nil)) pa_nil))) (pe_callTy call_int1 (by rfl) b_int (by decide +kernel) (pa_cons (pe_cmpR op_eq (pe_c c_l_take hr (by first | decide | omega) (by rfl) (pa_cons (pv 0) (pa_cons pe_int pa_nil))) pe_int (nomark _)) pa_nil)) (fun _ _ => rfl))))), ?_⟩
  simp only [tSeq, tAsg, tAnd, tOr, tNot, tTest, tB, tOp, tUn, tCB, tCons, tNil, tVar, tC, gName, rI0, rI, rU, rEq, rNe, rIxS, rIxL, rIxT, tRet, tRetN, tTup, tLst, tSl, tPart, tNoPart, rSlS, tIf, tIfS, tNext, tDrop, tCall, tBM, tBM0, tAndV, tOrV, tNotV, tM0, tM1, gSub, rSetL, sFld, gCons_eq, gNil_eq, tDGet, sDPut, tMeth, tMake, tFld, tChain, tIsN, tNotN,
  List.set_cons_zero, List.set_cons_succ, exists_eq_left', exists_eq_left, exists_eq, V.int.injEq, V.str.injEq, V.bl.injEq, V.ref.injEq, List.cons.injEq, and_true, true_and, List.getElem?_cons_zero, List.getElem?_cons_succ, Option.some.injEq, List.append_nil, exists_and_left, cxOf_K, false_and, and_false, exists_false, false_or, or_false, exists_eq', exists_const, sg_eq, S_eq, S_toList, S_ne, tFor_eq, tLc_eq, iList_eq, iTup_eq, iRng1_eq, iStr_eq, decide_eq_true_eq, Bool.not_eq_true', decide_eq_false_iff_not, if_true, if_false, Bool.false_eq_true, reduceCtorEq, Bool.true_eq_false, decide_true, decide_false, lit_115, lit_105_110_103, lit_101_100, lit_108_121, lit_101_114, lit_101_115_116, lit_97_98_108_101, lit_121, lit_110_101_115_115, lit_45_108_105_107_101, lit_39_115, lit_105_115_104, start1_2]
  refine ⟨(size_le (by simp only [List.length_cons, List.length_nil]; decide)), ?_⟩
  (intro p np; generalize hqp : upd _ p _ = H1; obtain ⟨G1, gp, e1, B1, f1⟩ := alB_ B np hqp; clear hqp np)
  refine take_ B1 (by decide) (by decide) fun r1 H2 hr1 B2 => ?_
  simp only [tSeq, tAsg, tAnd, tOr, tNot, tTest, tB, tOp, tUn, tCB, tCons, tNil, tVar, tC, gName, rI0, rI, rU, rEq, rNe, rIxS, rIxL, rIxT, tRet, tRetN, tTup, tLst, tSl, tPart, tNoPart, rSlS, tIf, tIfS, tNext, tDrop, tCall, tBM, tBM0, tAndV, tOrV, tNotV, tM0, tM1, gSub, rSetL, sFld, gCons_eq, gNil_eq, tDGet, sDPut, tMeth, tMake, tFld, tChain, tIsN, tNotN,
  List.set_cons_zero, List.set_cons_succ, exists_eq_left', exists_eq_left, exists_eq, V.int.injEq, V.str.injEq, V.bl.injEq, V.ref.injEq, List.cons.injEq, and_true, true_and, List.getElem?_cons_zero, List.getElem?_cons_succ, Option.some.injEq, List.append_nil, exists_and_left, cxOf_K, false_and, and_false, exists_false, false_or, or_false, exists_eq', exists_const, sg_eq, S_eq, S_toList, S_ne, tFor_eq, tLc_eq, iList_eq, iTup_eq, iRng1_eq, iStr_eq, decide_eq_true_eq, Bool.not_eq_true', decide_eq_false_iff_not, if_true, if_false, Bool.false_eq_true, reduceCtorEq, Bool.true_eq_false, decide_true, decide_false]
  obtain ⟨t, ht, hok⟩ : ∃ t : Tx, atI [V.str (S [115]), V.str (S [105, 110, 103]), V.str (S [101, 100]), V.str (S [108, 121]), V.str (S [101, 114]), V.str (S [101, 115, 116]), V.str (S [97, 98, 108, 101]), V.str (S [121]), V.str (S [110, 101, 115, 115]), V.str (S [45, 108, 105, 107, 101]), V.str (S [39, 115]), V.str (S [105, 115, 104])] (r1 : Int) = some (.str (S t)) ∧ wordOk t := by
    match r1, hr1 with
    | 0, _ => exact ⟨_, rfl, by decide, by decide, by decide⟩
    | 1, _ => exact ⟨_, rfl, by decide, by decide, by decide⟩
    | 2, _ => exact ⟨_, rfl, by decide, by decide, by decide⟩
    | 3, _ => exact ⟨_, rfl, by decide, by decide, by decide⟩
    | 4, _ => exact ⟨_, rfl, by decide, by decide, by decide⟩
    | 5, _ => exact ⟨_, rfl, by decide, by decide, by decide⟩
    | 6, _ => exact ⟨_, rfl, by decide, by decide, by decide⟩
    | 7, _ => exact ⟨_, rfl, by decide, by decide, by decide⟩
    | 8, _ => exact ⟨_, rfl, by decide, by decide, by decide⟩
    | 9, _ => exact ⟨_, rfl, by decide, by decide, by decide⟩
    | 10, _ => exact ⟨_, rfl, by decide, by decide, by decide⟩
    | 11, _ => exact ⟨_, rfl, by decide, by decide, by decide⟩
    | n + 12, h => exact absurd h (by omega)
  refine ⟨_, sq_of (B2.ex _ _ f1), _, ht, ?_⟩
  refine word_ B2 fun t2 H3 hok2 B3 => ?_
  refine ⟨(size_le (by simp only [List.length_cons, List.length_nil]; decide)), ?_⟩
  (intro p2 np2; generalize hqp2 : upd _ p2 _ = H4; obtain ⟨G4, gp2, e4, B4, f4⟩ := alB_ B3 np2 hqp2; clear hqp2 np2)
  refine take_ B4 (by decide) (by decide) fun r5 H5 hr5 B5 => ⟨rfl, ?_⟩
  simp only [tSeq, tAsg, tAnd, tOr, tNot, tTest, tB, tOp, tUn, tCB, tCons, tNil, tVar, tC, gName, rI0, rI, rU, rEq, rNe, rIxS, rIxL, rIxT, tRet, tRetN, tTup, tLst, tSl, tPart, tNoPart, rSlS, tIf, tIfS, tNext, tDrop, tCall, tBM, tBM0, tAndV, tOrV, tNotV, tM0, tM1, gSub, rSetL, sFld, gCons_eq, gNil_eq, tDGet, sDPut, tMeth, tMake, tFld, tChain, tIsN, tNotN,
  List.set_cons_zero, List.set_cons_succ, exists_eq_left', exists_eq_left, exists_eq, V.int.injEq, V.str.injEq, V.bl.injEq, V.ref.injEq, List.cons.injEq, and_true, true_and, List.getElem?_cons_zero, List.getElem?_cons_succ, Option.some.injEq, List.append_nil, exists_and_left, cxOf_K, false_and, and_false, exists_false, false_or, or_false, exists_eq', exists_const, sg_eq, S_eq, S_toList, S_ne, tFor_eq, tLc_eq, iList_eq, iTup_eq, iRng1_eq, iStr_eq, decide_eq_true_eq, Bool.not_eq_true', decide_eq_false_iff_not, if_true, if_false, Bool.false_eq_true, reduceCtorEq, Bool.true_eq_false, decide_true, decide_false]
  refine ⟨_, sq_of (B5.ex _ _ f4), ?_⟩
  have kk : ∀ t, wordOk t → Q (.str (S t)) H5 := fun t h => k t H5 h (B5.weak (e1.trans e4))
  by_cases h : (r5 : Int) = 1
  · rw [if_pos h]
    exact ⟨_, rfl, kk t2 hok2⟩
  · rw [if_neg h]
    exact ⟨_, rfl, kk t hok⟩
theorem ending_ {b : Addr} {G H : Hp} {Q : VK} {E : XK} (B : Bx b G H) (k : ∀ (t : Tx) H', wordOk t → Bx b G H' → Q (.str (S t)) H') : sp_ending [.ref b] H Q E := ⟨b, G, rfl, B, k⟩
end
/-! ### classes -/
abbrev FunM (K : PySem.W.Frag) (m qual : Str) (st : Stmt) (f : Addr) (fd : FuncData) : Prop := FunD K m qual (defArgs st) (defBody st) (defScope st) [] [] f fd
structure Met (P : Program) (w : World) (K : PySem.W.Frag) (mg : Str → Option Value) (base : Heap) (CX : CXT) (k : Nat) (C : Addr) (m : Str) (sp : Sp) : Prop where
  ex : ∃ (f : Addr) (fd : FuncData) (ps : List Str), Cls K C ∧ Meth K C m f ∧ FnOk P w K mg base CX k f fd ps sp ∧ Binds K fd ps []
structure Mak (P : Program) (w : World) (K : PySem.W.Frag) (mg : Str → Option Value) (base : Heap) (CX : CXT) (k : Nat) (x : Str) (C : Addr) (sp : Sp) : Prop where
  ex : ∃ (f : Addr) (fd : FuncData) (ps : List Str), Mk K C f ∧ FnOk P w K mg base CX k f fd ps sp ∧ mg x = some (.ref C) ∧ Binds K fd ps []
section
variable {X : Cx} {k j : Nat} {C : Addr} {x m : Str} {sp : Sp} {p pos apos : Pos} {e o : Expr} {es : List Expr} {ta : TE} {t : TA}
theorem pe_mk (c : Mak X.prog X.w X.K X.mg X.base CX0 k x C sp) (hr : Room j X.A) (hk : k + 1 ≤ j) (hg : Gl X x) (ha : PA X (e :: es) t)
    (hdb : (x == ("__debug__" : Str)) = false := by decide) (he : starEach (e :: es) X.env = (false, eval e X.env) :: starEach es X.env := by rfl) (hpl : (backTo pos (starEach es X.env)).any (·.1) = false := by rfl) :
    PE X (.Call (.Name x p) (e :: es) [] pos) (tMake C sp [] E0 t) := by
  obtain ⟨f, fd, ps, M, F, hm, b⟩ := c.ex
  exact pe_make M F (hr.mono hk) hg hm b .nil pass0 ha hdb he hpl
theorem pe_mk0 (c : Mak X.prog X.w X.K X.mg X.base CX0 k x C sp) (hr : Room j X.A) (hk : k + 1 ≤ j) (hg : Gl X x) (hdb : (x == ("__debug__" : Str)) = false := by decide) :
    PE X (.Call (.Name x p) [] [] pos) (tMake C sp [] E0 tNil) := by
  obtain ⟨f, fd, ps, M, F, hm, b⟩ := c.ex
  exact pe_make0 M F (hr.mono hk) hg hm b .nil pass0 hdb
theorem pe_mt {pl : Sem Bool} (c : Met X.prog X.w X.K X.mg X.base CX0 k C m sp) (hr : Room j X.A) (hk : k ≤ j) (he : PE X o ta) (ha : PA X (e :: es) t)
    (hst : starEach (e :: es) X.env = (false, eval e X.env) :: starEach es X.env := by rfl) (hpl : (backTo pos (starEach es X.env)).any (·.1) = false := by rfl)
    (ht : eval (.Call (.Attribute o m apos) (e :: es) [] pos) X.env = (do
      let ov ← eval o X.env
      standAt apos.atName
      let (f, first) ← holding [ov] (getMethod ov m pl)
      callWith pos f first (backTo pos (starEach (e :: es) X.env)) (backToKw pos (keywordEach [] X.env))) := by rfl) :
    PE X (.Call (.Attribute o m apos) (e :: es) [] pos) (tMeth C m sp [] E0 ta t) := by
  obtain ⟨f, fd, ps, hc, hm, F, b⟩ := c.ex
  exact pe_meth (pl := pl) he hc hm F (hr.mono hk) b .nil pass0 ha hst hpl ht
theorem pe_mt0 {pl : Sem Bool} (c : Met X.prog X.w X.K X.mg X.base CX0 k C m sp) (hr : Room j X.A) (hk : k ≤ j) (he : PE X o ta)
    (ht : eval (.Call (.Attribute o m apos) [] [] pos) X.env = (do
      let ov ← eval o X.env
      standAt apos.atName
      let (f, first) ← holding [ov] (getMethod ov m pl)
      callWith pos f first (backTo pos (starEach [] X.env)) (backToKw pos (keywordEach [] X.env))) := by rfl) :
    PE X (.Call (.Attribute o m apos) [] [] pos) (tMeth C m sp [] E0 ta tNil) := by
  obtain ⟨f, fd, ps, hc, hm, F, b⟩ := c.ex
  exact pe_meth0 (pl := pl) he hc hm F (hr.mono hk) b .nil pass0 ht
end
/-- an object of one's own: o at p, G all that was known ahead of it -/
def Ob (p : Addr) (o : HO) (G H : Hp) : Prop := Same G H ∧ G p = none ∧ H p = some o
theorem Ob.at {p : Addr} {o : HO} {G H : Hp} (h : Ob p o G H) : H p = some o := h.2.2
theorem Ob.put {p : Addr} {o o' : HO} {G H : Hp} (h : Ob p o G H) : Ob p o' G (upd H p o') := ⟨same_mut h.1 h.2.1, h.2.1, upd_same⟩
theorem Ob.same {p : Addr} {o : HO} {G H H' : Hp} (h : Ob p o G H) (s : Same H H') : Ob p o G H' := ⟨h.1.trans s, h.2.1, s _ _ h.2.2⟩
theorem Ob.weak {p : Addr} {o : HO} {G G' H : Hp} (s : Same G G') (h : Ob p o G' H) : Ob p o G H := ⟨s.trans h.1, s.free h.2.1, h.2.2⟩
theorem upd_upd {H : Hp} {p : Addr} {a b : HO} : upd (upd H p a) p b = upd H p b := by
  funext x
  by_cases h : x = p
  · subst h
    rw [upd_same, upd_same]
  · rw [upd_ne h, upd_ne h, upd_ne h]
theorem fld_iff {K : PySem.W.Frag} {H : Hp} {p C dx : Addr} {fs : List (Str × V)} {f : Str} {v : V} {Q : V → Prop} (hp : H p = some (.ins C dx fs)) (c : Cls K C) (n : NoAttr K C f) (l : fs.lookup f = some v) :
    (∃ C' dx' fs', H p = some (.ins C' dx' fs') ∧ Cls K C' ∧ NoAttr K C' f ∧ ∃ v', fs'.lookup f = some v' ∧ Q v') ↔ Q v := by
  constructor
  · rintro ⟨C', dx', fs', h, _, _, v', h2, q⟩
    rw [hp] at h
    cases h
    rw [l] at h2
    cases h2
    exact q
  · exact fun q => ⟨C, dx, fs, hp, c, n, v, l, q⟩
theorem fput_iff {K : PySem.W.Frag} {H : Hp} {p C dx : Addr} {fs : List (Str × V)} {f : Str} {R : Addr → Addr → List (Str × V) → Prop} (hp : H p = some (.ins C dx fs)) (c : Cls K C) (n : NoAttr K C f) (l : fs.length < 1000) :
    (∃ C' dx' fs', H p = some (.ins C' dx' fs') ∧ Cls K C' ∧ NoAttr K C' f ∧ fs'.length < 1000 ∧ R C' dx' fs') ↔ R C dx fs := by
  constructor
  · rintro ⟨C', dx', fs', h, _, _, _, q⟩
    rw [hp] at h
    cases h
    exact q
  · exact fun q => ⟨C, dx, fs, hp, c, n, l, q⟩
theorem meth_iff {H : Hp} {p C dx : Addr} {fs : List (Str × V)} {m : Str} {R : Prop} (hp : H p = some (.ins C dx fs)) (l : fs.lookup m = none) :
    (∃ dx' fs', H p = some (.ins C dx' fs') ∧ fs'.lookup m = none ∧ R) ↔ R := by
  constructor
  · rintro ⟨dx', fs', h, _, q⟩
    exact q
  · exact fun q => ⟨dx, fs, hp, l, q⟩
theorem kV_inj {a b : Key} (h : kV a = kV b) : a = b := by
  cases a <;> cases b <;> simp_all [kV]
theorem dget_iff {H : Hp} {q : Addr} {kvs : List (Key × V)} {k : Str} {v : V} {Q : V → Prop} (hp : H q = some (.dK kvs)) (l : valV kvs (.inr k) = some v) :
    (∃ v', DGet H q (.str k) (some v') ∧ Q v') ↔ Q v := by
  constructor
  · rintro ⟨v', h, qq⟩
    rcases h with ⟨kvs', k', h, ek, e⟩ | ⟨kvs', k', b, h, _⟩
    · have ek2 : k' = .inr k := kV_inj (ek.symm : kV k' = kV (.inr k))
      subst ek2
      rcases h with h | ⟨o, h⟩
      · rw [hp] at h
        cases h
        rw [l] at e
        cases e
        exact qq
      · rw [hp] at h
        cases h
    · rcases h with h | ⟨o, h⟩
      · rw [hp] at h
        cases h
      · rw [hp] at h
        cases h
  · exact fun qq => ⟨v, .inl ⟨kvs, .inr k, .inl hp, rfl, l.symm⟩, qq⟩
theorem dput_iff {H : Hp} {q : Addr} {kvs : List (Key × V)} {k : Str} {v : V} {R : Hp → Prop} (hp : H q = some (.dK kvs)) (l : kvs.length < sizeLine) :
    (∃ H', DPut H q (.str k) v H' ∧ R H') ↔ R (upd H q (.dK (putK kvs (.inr k) v))) := by
  constructor
  · rintro ⟨H', h, r⟩
    rcases h with ⟨kvs', k', h, ek, _, e⟩ | ⟨kvs', k', b, h, _⟩
    · have ek2 : k' = .inr k := kV_inj (ek.symm : kV k' = kV (.inr k))
      subst ek2
      rw [hp] at h
      cases h
      rw [e] at r
      exact r
    · rw [hp] at h
      cases h
  · exact fun r => ⟨_, .inl ⟨kvs, .inr k, hp, rfl, l, rfl⟩, r⟩
theorem dps_cons {K : PySem.W.Frag} {H : Hp} {xs : List V} {d : PyData} {ds : List PyData} (h : DpAll K H xs (d :: ds)) : ∃ v r, xs = v :: r ∧ Dp K H v d ∧ DpAll K H r ds := by
  cases h with
  | cons h1 h2 => exact ⟨_, _, rfl, h1, h2⟩
theorem dps_nil {K : PySem.W.Frag} {H : Hp} {xs : List V} (h : DpAll K H xs []) : xs = [] := by
  cases h
  rfl
theorem dps_str {K : PySem.W.Frag} {H : Hp} {xs : List V} {t : Str} {ds : List PyData} (h : DpAll K H xs (.str t :: ds)) : ∃ r, xs = .str t :: r ∧ DpAll K H r ds := by
  obtain ⟨v, r, e, h1, h2⟩ := dps_cons h
  rw [dp_str h1] at e
  exact ⟨r, e, h2⟩
theorem dps_bl {K : PySem.W.Frag} {H : Hp} {xs : List V} {t : Bool} {ds : List PyData} (h : DpAll K H xs (.bool t :: ds)) : ∃ r, xs = .bl t :: r ∧ DpAll K H r ds := by
  obtain ⟨v, r, e, h1, h2⟩ := dps_cons h
  rw [dp_bl h1] at e
  exact ⟨r, e, h2⟩
theorem sqt_of {K : PySem.W.Frag} {H G : Hp} {q : Addr} {xs : List V} (h : SqT K G q xs) (s : Same G H) : SqT K H q xs := same_t s h
theorem dp1 {K : PySem.W.Frag} {H : Hp} {v : V} {a : Str} (h : Dp K H v (.tuple [.str a])) : ∃ q, v = .ref q ∧ SqT K H q [.str a] := by
  obtain ⟨q, xs, e, hq, hx⟩ := dp_tup h
  obtain ⟨r, e1, hx⟩ := dps_str hx
  rw [e1, dps_nil hx] at hq
  exact ⟨q, e, hq⟩
theorem dp2 {K : PySem.W.Frag} {H : Hp} {v : V} {a b : Str} (h : Dp K H v (.tuple [.str a, .str b])) : ∃ q, v = .ref q ∧ SqT K H q [.str a, .str b] := by
  obtain ⟨q, xs, e, hq, hx⟩ := dp_tup h
  obtain ⟨r, e1, hx⟩ := dps_str hx
  obtain ⟨r2, e2, hx⟩ := dps_str hx
  rw [e1, e2, dps_nil hx] at hq
  exact ⟨q, e, hq⟩
theorem dp4 {K : PySem.W.Frag} {H : Hp} {v : V} {a b : Str} {c d : Bool} (h : Dp K H v (.tuple [.str a, .str b, .bool c, .bool d])) : ∃ q, v = .ref q ∧ SqT K H q [.str a, .str b, .bl c, .bl d] := by
  obtain ⟨q, xs, e, hq, hx⟩ := dp_tup h
  obtain ⟨r, e1, hx⟩ := dps_str hx
  obtain ⟨r2, e2, hx⟩ := dps_str hx
  obtain ⟨r3, e3, hx⟩ := dps_bl hx
  obtain ⟨r4, e4, hx⟩ := dps_bl hx
  rw [e1, e2, e3, e4, dps_nil hx] at hq
  exact ⟨q, e, hq⟩
/-! ### actions -/
inductive Act where
  | word (t : Tx)
  | glue (t : Tx)
  | join (t : Tx) (l r : Bool)
  | stop (c : Nat)
  | great
  | all
  | last
  | back
  | again
abbrev wWord : Tx := [119, 111, 114, 100]
abbrev wGlue : Tx := [103, 108, 117, 101]
abbrev wJoin : Tx := [106, 111, 105, 110]
abbrev wStop : Tx := [115, 116, 111, 112]
abbrev wGreat : Tx := [103, 114, 101, 97, 116]
abbrev wAll : Tx := [97, 108, 108]
abbrev wLast : Tx := [108, 97, 115, 116]
abbrev wBack : Tx := [98, 97, 99, 107]
abbrev wAgain : Tx := [97, 103, 97, 105, 110]
def dS (t : Tx) : PyData := .str (S t)
def actD : Act → PyData
  | .word t => .tuple [dS wWord, dS t]
  | .glue t => .tuple [dS wGlue, dS t]
  | .join t l r => .tuple [dS wJoin, dS t, .bool l, .bool r]
  | .stop c => .tuple [dS wStop, dS [c]]
  | .great => .tuple [dS wGreat]
  | .all => .tuple [dS wAll]
  | .last => .tuple [dS wLast]
  | .back => .tuple [dS wBack]
  | .again => .tuple [dS wAgain]
def entD (e : List Act) : PyData := .tuple (e.map actD)
def stopC (c : Nat) : Prop := c ∈ [46, 63, 33, 44, 58, 59]
/-- what an action that is drawn keeps -/
def actOk : Act → Prop
  | .word t => wordOk t
  | .glue t => wordOk t
  | .join t l r => (wordOk t ∧ (l = true ∨ r = true)) ∨ (t = [] ∧ l = true ∧ r = true)
  | .stop c => stopC c
  | _ => True
theorem wordOk.asc {t : Tx} (h : wordOk t) : asc t := fun c hc => wsign_lt (h.2.2 c hc)
theorem act_noL (a : Act) : noL (actD a) = true := by cases a <;> rfl
theorem ents_noL : ∀ e : List Act, noLs (e.map actD) = true
  | [] => rfl
  | a :: r => by
    simp only [List.map_cons, noLs, act_noL, ents_noL r, Bool.and_self]
theorem ent_noL (e : List Act) : noL (entD e) = true := ents_noL e
theorem stopC_lt {c : Nat} (h : stopC c) : c < 128 := by
  simp only [stopC, List.mem_cons, List.not_mem_nil, or_false] at h
  omega
theorem dS_ok {n : Nat} {t : Tx} (h : asc t) : okD (n + 1) (dS t) := asc_ok h
theorem act_ok {a : Act} (h : actOk a) : okD 3 (actD a) := by
  have tw : ∀ {x t : Tx}, asc x → asc t → okD 3 (.tuple [dS x, dS t]) := fun hx ht => ⟨(by simp only [List.length_cons, List.length_nil]; decide), fun d hd => by
    simp only [List.mem_cons, List.not_mem_nil, or_false] at hd
    rcases hd with rfl | rfl
    · exact dS_ok hx
    · exact dS_ok ht⟩
  have on : ∀ {x : Tx}, asc x → okD 3 (.tuple [dS x]) := fun hx => ⟨(by simp only [List.length_cons, List.length_nil]; decide), fun d hd => by
    simp only [List.mem_cons, List.not_mem_nil, or_false] at hd
    rw [hd]
    exact dS_ok hx⟩
  cases a with
  | word t => exact tw (asc_of rfl) (wordOk.asc h)
  | glue t => exact tw (asc_of rfl) (wordOk.asc h)
  | stop c => exact tw (asc_of rfl) (fun x hx => by rw [List.mem_singleton.mp hx]; exact stopC_lt h)
  | join t l r =>
    have ht : asc t := by
      rcases h with h | ⟨rfl, _⟩
      · exact h.1.asc
      · exact fun c hc => nomatch hc
    refine ⟨(by simp only [List.length_cons, List.length_nil]; decide), fun d hd => ?_⟩
    simp only [List.mem_cons, List.not_mem_nil, or_false] at hd
    rcases hd with rfl | rfl | rfl | rfl
    · exact dS_ok (asc_of rfl)
    · exact dS_ok ht
    · trivial
    · trivial
  | great => exact on (asc_of rfl)
  | all => exact on (asc_of rfl)
  | last => exact on (asc_of rfl)
  | back => exact on (asc_of rfl)
  | again => exact on (asc_of rfl)
theorem ent_ok {e : List Act} (hl : e.length ≤ 1000) (h : ∀ a ∈ e, actOk a) : okD 4 (entD e) := ⟨by rw [List.length_map]; omega, fun d hd => by
  obtain ⟨a, ha, rfl⟩ := List.mem_map.mp hd
  exact act_ok (h a ha)⟩
/-- a draw of an action (no back, no again) -/
def plainA : Act → Prop
  | .back => False
  | .again => False
  | _ => True
def sp_action (K : PySem.W.Frag) : Sp := fun vs H Q _ => ∃ (b : Addr) (G : Hp), vs = [.ref b] ∧ Bx b G H ∧ ∀ (v : V) (a : Act) G' H', actOk a → plainA a → Same G G' → Bx b G' H' → Dp K G' v (actD a) → Q v H'
abbrev s_l_action : Stmt := (top 18)
theorem sc_l_action : FnScope ["_law_box", "_law_kind"] ["_law_box"] (defScope s_l_action) := ⟨rfl, rfl, rfl, by decide +kernel, rfl, by decide +kernel, by decide +kernel⟩

section
variable {P : Program} {w : World} {K : PySem.W.Frag} {mg : Str → Option Value} {base : Heap}
theorem ok_action {f : Addr} {fd : FuncData} (F : FunS K "_law_action" s_l_action f fd) (c_l_take : Cal P w K mg base CX0 1 "_law_take" sp_take) (c_l_word : Cal P w K mg base CX0 2 "_law_word" sp_word) (c_l_ending : Cal P w K mg base CX0 3 "_law_ending" sp_ending) : FnOk P w K mg base CX0 4 f fd ["_law_box"] (sp_action K) := by
  refine F.ok sc_l_action (fun vs H Q E h => ?_) (fun cdv A outer s H vs Q E hr h => ?_)
  · obtain ⟨b, G, rfl, _⟩ := h
    rfl
  obtain ⟨b, G, rfl, B, k⟩ := h
  refine ⟨_, PSs.nox (pss_cons (ps_set (i := 1) sc_l_action.nd rfl (.inl rfl) (pe_c c_l_take hr (by first | decide | omega) (by rfl) (pa_cons (pv 0) (pa_cons pe_int pa_nil))))
  (pss_cons (ps_if (pt_cmpR op_lt (pv 1) pe_int (nomark _))
    (pss_one (ps_ret (pe_tup (pa_cons pe_str (pa_cons (pe_c c_l_word hr (by first | decide | omega) (by rfl) (pa_cons (pv 0) pa_nil)) pa_nil)))))
    pss_nil)
  (pss_cons (ps_if (pt_cmpR op_eq (pv 1) pe_int (nomark _))
    (pss_one (ps_ret (pe_tup (pa_cons pe_str (pa_cons (pe_c c_l_word hr (by first | decide | omega) (by rfl) (pa_cons (pv 0) pa_nil)) pa_nil)))))
    pss_nil)
  (pss_cons (ps_if (pt_cmpR op_lt (pv 1) pe_int (nomark _))
    (pss_one (ps_ret (pe_tup (pa_cons pe_str (pa_cons (pe_c c_l_ending hr (by first | decide | omega) (by rfl) (pa_cons (pv 0) pa_nil)) (pa_cons pe_bl (pa_cons (pe_cmpR op_eq (pv 1) pe_int (nomark _)) pa_nil)))))))
    pss_nil)
  (pss_cons (ps_if (pt_cmpR op_eq (pv 1) pe_int (nomark _))
    (pss_one (ps_ret (pe_tup (pa_cons pe_str (pa_cons (pe_c c_l_word hr (by first | decide | omega) (by rfl) (pa_cons (pv 0) pa_nil)) (pa_cons pe_bl (pa_cons pe_bl pa_nil)))))))
    pss_nil)
  (pss_cons (ps_if (pt_cmpR op_eq (pv 1) pe_int (nomark _))
    (pss_one (ps_ret (pe_tup (pa_cons pe_str (pa_cons pe_str (pa_cons pe_bl (pa_cons pe_bl pa_nil)))))))
    pss_nil)
  (pss_cons (ps_if (pt_cmpR op_eq (pv 1) pe_int (nomark _))
    (pss_one (ps_ret (pe_tup (pa_cons pe_str (pa_cons (pe_ix ix_str pe_str (pe_c c_l_take hr (by first | decide | omega) (by rfl) (pa_cons (pv 0) (pa_cons pe_int pa_nil))) (fun _ _ => rfl)) pa_nil)))))
    pss_nil)
  (pss_one (ps_ret (pe_ix ix_list (pe_lst (pa_cons (pe_tup (pa_cons pe_str pa_nil)) (pa_cons (pe_tup (pa_cons pe_str pa_nil)) (pa_cons (pe_tup (pa_cons pe_str pa_nil)) pa_nil)))) (pe_c c_l_take hr (by first | decide | omega) (by rfl) (pa_cons (pv 0) (pa_cons pe_int pa_nil))) (fun _ _ => rfl))))))))))), ?_⟩
  simp only [tSeq, tAsg, tAnd, tOr, tNot, tTest, tB, tOp, tUn, tCB, tCons, tNil, tVar, tC, gName, rI0, rI, rU, rEq, rNe, rIxS, rIxL, rIxT, tRet, tRetN, tTup, tLst, tSl, tPart, tNoPart, rSlS, tIf, tIfS, tNext, tDrop, tCall, tBM, tBM0, tAndV, tOrV, tNotV, tM0, tM1, gSub, rSetL, sFld, gCons_eq, gNil_eq, tDGet, sDPut, tMeth, tMake, tFld, tChain, tIsN, tNotN,
  List.set_cons_zero, List.set_cons_succ, exists_eq_left', exists_eq_left, exists_eq, V.int.injEq, V.str.injEq, V.bl.injEq, V.ref.injEq, List.cons.injEq, and_true, true_and, List.getElem?_cons_zero, List.getElem?_cons_succ, Option.some.injEq, List.append_nil, exists_and_left, cxOf_K, false_and, and_false, exists_false, false_or, or_false, exists_eq', exists_const, sg_eq, S_eq, S_toList, S_ne, tFor_eq, tLc_eq, iList_eq, iTup_eq, iRng1_eq, iStr_eq, decide_eq_true_eq, Bool.not_eq_true', decide_eq_false_iff_not, if_true, if_false, Bool.false_eq_true, reduceCtorEq, Bool.true_eq_false, decide_true, decide_false, lit_119_111_114_100, lit_103_108_117_101, lit_106_111_105_110, lit_, lit_115_116_111_112, lit_46_63_33_44_58_59, lit_103_114_101_97_116, lit_97_108_108, lit_108_97_115_116, start1_2]
  refine take_ B (by decide) (by decide) fun r H1 hr1 B1 => ?_
  simp only [tSeq, tAsg, tAnd, tOr, tNot, tTest, tB, tOp, tUn, tCB, tCons, tNil, tVar, tC, gName, rI0, rI, rU, rEq, rNe, rIxS, rIxL, rIxT, tRet, tRetN, tTup, tLst, tSl, tPart, tNoPart, rSlS, tIf, tIfS, tNext, tDrop, tCall, tBM, tBM0, tAndV, tOrV, tNotV, tM0, tM1, gSub, rSetL, sFld, gCons_eq, gNil_eq, tDGet, sDPut, tMeth, tMake, tFld, tChain, tIsN, tNotN,
  List.set_cons_zero, List.set_cons_succ, exists_eq_left', exists_eq_left, exists_eq, V.int.injEq, V.str.injEq, V.bl.injEq, V.ref.injEq, List.cons.injEq, and_true, true_and, List.getElem?_cons_zero, List.getElem?_cons_succ, Option.some.injEq, List.append_nil, exists_and_left, cxOf_K, false_and, and_false, exists_false, false_or, or_false, exists_eq', exists_const, sg_eq, S_eq, S_toList, S_ne, tFor_eq, tLc_eq, iList_eq, iTup_eq, iRng1_eq, iStr_eq, decide_eq_true_eq, Bool.not_eq_true', decide_eq_false_iff_not, if_true, if_false, Bool.false_eq_true, reduceCtorEq, Bool.true_eq_false, decide_true, decide_false]
  refine ite2 (fun _ => ?_) fun h1 => ⟨rfl, ite2 (fun _ => ?_) fun h2 => ite2 (fun _ => ?_) fun h3 => ⟨rfl, ite2 (fun _ => ?_) fun h4 => ⟨rfl, ite2 (fun _ => ?_) fun h5 => ⟨rfl, ite2 (fun _ => ?_) fun h6 => ?_⟩⟩⟩⟩
  · refine word_ B1 fun t H2 ht B2 => ⟨(size_le (by simp only [List.length_cons, List.length_nil]; decide)), ?_⟩
    (intro p np; generalize hqp : upd _ p _ = H3; obtain ⟨G3, gp, e3, B3, f3⟩ := alB_ B2 np hqp; clear hqp np)
    exact k _ (.word t) G3 H3 ht trivial e3 B3 (.tup (st_of f3) (dp_strs [S wWord, S t]))
  · refine word_ B1 fun t H2 ht B2 => ⟨(size_le (by simp only [List.length_cons, List.length_nil]; decide)), ?_⟩
    (intro p np; generalize hqp : upd _ p _ = H3; obtain ⟨G3, gp, e3, B3, f3⟩ := alB_ B2 np hqp; clear hqp np)
    exact k _ (.glue t) G3 H3 ht trivial e3 B3 (.tup (st_of f3) (dp_strs [S wGlue, S t]))
  · refine ending_ B1 fun t H2 ht B2 => ⟨rfl, (size_le (by simp only [List.length_cons, List.length_nil]; decide)), ?_⟩
    (intro p np; generalize hqp : upd _ p _ = H3; obtain ⟨G3, gp, e3, B3, f3⟩ := alB_ B2 np hqp; clear hqp np)
    exact k _ (.join t true _) G3 H3 (.inl ⟨ht, .inl rfl⟩) trivial e3 B3 (.tup (st_of f3) (.cons (.str _) (.cons (.str _) (.cons (.bl true) (.cons (.bl _) .nil)))))
  · refine word_ B1 fun t H2 ht B2 => ⟨(size_le (by simp only [List.length_cons, List.length_nil]; decide)), ?_⟩
    (intro p np; generalize hqp : upd _ p _ = H3; obtain ⟨G3, gp, e3, B3, f3⟩ := alB_ B2 np hqp; clear hqp np)
    exact k _ (.join t false true) G3 H3 (.inl ⟨ht, .inr rfl⟩) trivial e3 B3 (.tup (st_of f3) (.cons (.str _) (.cons (.str _) (.cons (.bl false) (.cons (.bl true) .nil)))))
  · refine ⟨(size_le (by simp only [List.length_cons, List.length_nil]; decide)), ?_⟩
    (intro p np; generalize hqp : upd _ p _ = H3; obtain ⟨G3, gp, e3, B3, f3⟩ := alB_ B1 np hqp; clear hqp np)
    exact k _ (.join [] true true) G3 H3 (.inr ⟨rfl, rfl, rfl⟩) trivial e3 B3 (.tup (st_of f3) (.cons (.str _) (.cons (.str _) (.cons (.bl true) (.cons (.bl true) .nil)))))
  · refine take_ B1 (by decide) (by decide) fun r6 H2 hr6 B2 => ?_
    simp only [tSeq, tAsg, tAnd, tOr, tNot, tTest, tB, tOp, tUn, tCB, tCons, tNil, tVar, tC, gName, rI0, rI, rU, rEq, rNe, rIxS, rIxL, rIxT, tRet, tRetN, tTup, tLst, tSl, tPart, tNoPart, rSlS, tIf, tIfS, tNext, tDrop, tCall, tBM, tBM0, tAndV, tOrV, tNotV, tM0, tM1, gSub, rSetL, sFld, gCons_eq, gNil_eq, tDGet, sDPut, tMeth, tMake, tFld, tChain, tIsN, tNotN,
  List.set_cons_zero, List.set_cons_succ, exists_eq_left', exists_eq_left, exists_eq, V.int.injEq, V.str.injEq, V.bl.injEq, V.ref.injEq, List.cons.injEq, and_true, true_and, List.getElem?_cons_zero, List.getElem?_cons_succ, Option.some.injEq, List.append_nil, exists_and_left, cxOf_K, false_and, and_false, exists_false, false_or, or_false, exists_eq', exists_const, sg_eq, S_eq, S_toList, S_ne, tFor_eq, tLc_eq, iList_eq, iTup_eq, iRng1_eq, iStr_eq, decide_eq_true_eq, Bool.not_eq_true', decide_eq_false_iff_not, if_true, if_false, Bool.false_eq_true, reduceCtorEq, Bool.true_eq_false, decide_true, decide_false]
    have hl : r6 < [46, 63, 33, 44, 58, 59].length := by
      have : r6 < 6 := by omega
      exact this
    refine ⟨(size_le (by (try simp only [S_len, List.length_append, List.length_cons, List.length_nil]); omega)), _, atI_nat (List.getElem?_eq_getElem hl), (size_le (by simp only [List.length_cons, List.length_nil]; decide)), ?_⟩
    (intro p np; generalize hqp : upd _ p _ = H3; obtain ⟨G3, gp, e3, B3, f3⟩ := alB_ B2 np hqp; clear hqp np)
    exact k _ (.stop [46, 63, 33, 44, 58, 59][r6]) G3 H3 (List.getElem_mem _) trivial e3 B3 (.tup (st_of f3) (dp_strs [S wStop, S [_]]))
  · refine ⟨(size_le (by simp only [List.length_cons, List.length_nil]; decide)), ?_⟩
    (intro p1 np1; generalize hqp1 : upd _ p1 _ = H2; obtain ⟨G2, gp1, e2, B2, f2⟩ := alB_ B1 np1 hqp1; clear hqp1 np1)
    refine ⟨(size_le (by simp only [List.length_cons, List.length_nil]; decide)), ?_⟩
    (intro p2 np2; generalize hqp2 : upd _ p2 _ = H3; obtain ⟨G3, gp2, e3, B3, f3⟩ := alB_ B2 np2 hqp2; clear hqp2 np2)
    refine ⟨(size_le (by simp only [List.length_cons, List.length_nil]; decide)), ?_⟩
    (intro p3 np3; generalize hqp3 : upd _ p3 _ = H4; obtain ⟨G4, gp3, e4, B4, f4⟩ := alB_ B3 np3 hqp3; clear hqp3 np3)
    refine ⟨(size_le (by simp only [List.length_cons, List.length_nil]; decide)), ?_⟩
    (intro p4 np4; generalize hqp4 : upd _ p4 _ = H5; obtain ⟨G5, gp4, e5, B5, f5⟩ := alB_ B4 np4 hqp4; clear hqp4 np4)
    refine take_ B5 (by decide) (by decide) fun r3 H6 hr3 B6 => ?_
    simp only [tSeq, tAsg, tAnd, tOr, tNot, tTest, tB, tOp, tUn, tCB, tCons, tNil, tVar, tC, gName, rI0, rI, rU, rEq, rNe, rIxS, rIxL, rIxT, tRet, tRetN, tTup, tLst, tSl, tPart, tNoPart, rSlS, tIf, tIfS, tNext, tDrop, tCall, tBM, tBM0, tAndV, tOrV, tNotV, tM0, tM1, gSub, rSetL, sFld, gCons_eq, gNil_eq, tDGet, sDPut, tMeth, tMake, tFld, tChain, tIsN, tNotN,
  List.set_cons_zero, List.set_cons_succ, exists_eq_left', exists_eq_left, exists_eq, V.int.injEq, V.str.injEq, V.bl.injEq, V.ref.injEq, List.cons.injEq, and_true, true_and, List.getElem?_cons_zero, List.getElem?_cons_succ, Option.some.injEq, List.append_nil, exists_and_left, cxOf_K, false_and, and_false, exists_false, false_or, or_false, exists_eq', exists_const, sg_eq, S_eq, S_toList, S_ne, tFor_eq, tLc_eq, iList_eq, iTup_eq, iRng1_eq, iStr_eq, decide_eq_true_eq, Bool.not_eq_true', decide_eq_false_iff_not, if_true, if_false, Bool.false_eq_true, reduceCtorEq, Bool.true_eq_false, decide_true, decide_false]
    refine ⟨_, sq_of (B6.ex _ _ f5), ?_⟩
    match r3, hr3 with
    | 0, _ => exact ⟨_, rfl, k _ .great G5 H6 trivial trivial (((e2.trans e3).trans e4).trans e5) B6 (.tup (st_of (e5 _ _ (e4 _ _ (e3 _ _ f2)))) (dp_strs [S wGreat]))⟩
    | 1, _ => exact ⟨_, rfl, k _ .all G5 H6 trivial trivial (((e2.trans e3).trans e4).trans e5) B6 (.tup (st_of (e5 _ _ (e4 _ _ f3))) (dp_strs [S wAll]))⟩
    | 2, _ => exact ⟨_, rfl, k _ .last G5 H6 trivial trivial (((e2.trans e3).trans e4).trans e5) B6 (.tup (st_of (e5 _ _ f4)) (dp_strs [S wLast]))⟩
    | n + 3, h => exact absurd h (by omega)
theorem action_ {b : Addr} {G H : Hp} {Q : VK} {E : XK} (B : Bx b G H) (k : ∀ (v : V) (a : Act) G' H', actOk a → plainA a → Same G G' → Bx b G' H' → Dp K G' v (actD a) → Q v H') : sp_action K [.ref b] H Q E := ⟨b, G, rfl, B, k⟩
def sp_entry (K : PySem.W.Frag) : Sp := fun vs H Q _ => ∃ (b : Addr) (G : Hp), vs = [.ref b] ∧ Bx b G H ∧ ∀ (v : V) (e : List Act) G' H', 1 ≤ e.length → e.length ≤ 4 → (∀ a ∈ e, actOk a ∧ plainA a) → Same G G' → Bx b G' H' → Dp K G' v (entD e) → Q v H'
abbrev s_l_entry : Stmt := (top 19)
theorem sc_l_entry : FnScope ["_law_box", "_law_many", "_law_k"] ["_law_box"] (defScope s_l_entry) := ⟨rfl, rfl, rfl, by decide +kernel, rfl, by decide +kernel, by decide +kernel⟩

theorem ok_entry {f : Addr} {fd : FuncData} (F : FunS K "_law_entry" s_l_entry f fd) (b_range : mg "range" = none) (b_tuple : mg "tuple" = none) (c_l_take : Cal P w K mg base CX0 1 "_law_take" sp_take) (c_l_action : Cal P w K mg base CX0 4 "_law_action" (sp_action K)) : FnOk P w K mg base CX0 5 f fd ["_law_box"] (sp_entry K) := by
  refine F.ok sc_l_entry (fun vs H Q E h => ?_) (fun cdv A outer s H vs Q E hr h => ?_)
  · obtain ⟨b, G, rfl, _⟩ := h
    rfl
  obtain ⟨b, G, rfl, B, k⟩ := h
  refine ⟨_, PSs.nox (pss_cons (ps_set (i := 1) sc_l_entry.nd rfl (.inl rfl) pe_int)
  (pss_cons (ps_if (pt_cmpR op_eq (pe_c c_l_take hr (by first | decide | omega) (by rfl) (pa_cons (pv 0) (pa_cons pe_int pa_nil))) pe_int (nomark _))
    (pss_one (ps_set (i := 1) sc_l_entry.nd rfl (.inl rfl) (pe_op op_add pe_int (pe_c c_l_take hr (by first | decide | omega) (by rfl) (pa_cons (pv 0) (pa_cons pe_int pa_nil))))))
    pss_nil)
  (pss_one (ps_ret (pe_callTy call_tuple_of (by rfl) b_tuple (by decide +kernel) (pa_cons (pe_lc (own := [("_law_k", 2)]) rfl sc_l_entry.nd (pi_range1 (by rfl) b_range (pa_cons (pv 1) pa_nil)) (blkOk_by (N := ["_law_box", "_law_many", "_law_k"]) (sc := defScope s_l_entry) (own := [("_law_k", 2)]) (by decide +kernel)) (fun _ _ _ _ _ => (pg_name (i := 2) sc_l_entry.nd rfl (.inl rfl))) (fun _ _ _ _ _ => pts_nil) (fun _ _ _ _ _ => (pe_c c_l_action hr (by first | decide | omega) (by rfl) (pa_cons (pv 0) pa_nil)))) pa_nil)))))), ?_⟩
  simp only [tSeq, tAsg, tAnd, tOr, tNot, tTest, tB, tOp, tUn, tCB, tCons, tNil, tVar, tC, gName, rI0, rI, rU, rEq, rNe, rIxS, rIxL, rIxT, tRet, tRetN, tTup, tLst, tSl, tPart, tNoPart, rSlS, tIf, tIfS, tNext, tDrop, tCall, tBM, tBM0, tAndV, tOrV, tNotV, tM0, tM1, gSub, rSetL, sFld, gCons_eq, gNil_eq, tDGet, sDPut, tMeth, tMake, tFld, tChain, tIsN, tNotN,
  List.set_cons_zero, List.set_cons_succ, exists_eq_left', exists_eq_left, exists_eq, V.int.injEq, V.str.injEq, V.bl.injEq, V.ref.injEq, List.cons.injEq, and_true, true_and, List.getElem?_cons_zero, List.getElem?_cons_succ, Option.some.injEq, List.append_nil, exists_and_left, cxOf_K, false_and, and_false, exists_false, false_or, or_false, exists_eq', exists_const, sg_eq, S_eq, S_toList, S_ne, tFor_eq, tLc_eq, iList_eq, iTup_eq, iRng1_eq, iStr_eq, decide_eq_true_eq, Bool.not_eq_true', decide_eq_false_iff_not, if_true, if_false, Bool.false_eq_true, reduceCtorEq, Bool.true_eq_false, decide_true, decide_false, true_and, start1_3]
  refine take_ B (by decide) (by decide) fun r H1 hr1 B1 => ⟨rfl, ?_⟩
  -- from a number of actions on
  have fin : ∀ (m : Nat) (x : Int) (H3 : Hp), x = (m : Int) → 1 ≤ m → m ≤ 4 → Bx b G H3 → ∀ Q', (∀ (L : Addr) (e : List Act) G' H', e.length = m → (∀ a ∈ e, actOk a ∧ plainA a) → Same G G' → Bx b G' H' → (∃ vs, G' L = some (.lst vs) ∧ DpAll K G' vs (e.map actD)) → Q' (.ref L) H') →
      ∀ L, H3 L = none → CompP (Itr 0 x.toNat) (gName 2) tYes (tCall (sp_action K) [] E0 (tCons (tVar 0) tNil)) (List.map (fun x => x.snd) [(Str.ofString "_law_k", 2)]) [some (.ref b), some (.int x), none] L Q' (upd H3 L (.lst [])) := by
    intro m x H3 ex h1 h4 B3 Q' q L hL
    subst ex
    rw [Int.toNat_natCast]
    refine comp_draw (fun v G' => ∃ a, actOk a ∧ plainA a ∧ Dp K G' v (actD a)) (fun v G' G2 kt ⟨a, h1, h2, h3⟩ => ⟨a, h1, h2, Dp.kt kt (act_noL a) h3⟩) (by omega) B3 hL (fun _ => rfl) (fun i G' H' Q2 _ _ B2 q2 => ?_) (fun acc G' H' s' B2 hl hlen hp => ?_)
    · simp only [wipe, List.map_cons, List.map_nil, List.set_cons_succ, List.set_cons_zero, tSeq, tAsg, tAnd, tOr, tNot, tTest, tB, tOp, tUn, tCB, tCons, tNil, tVar, tC, gName, rI0, rI, rU, rEq, rNe, rIxS, rIxL, rIxT, tRet, tRetN, tTup, tLst, tSl, tPart, tNoPart, rSlS, tIf, tIfS, tNext, tDrop, tCall, tBM, tBM0, tAndV, tOrV, tNotV, tM0, tM1, gSub, rSetL, sFld, gCons_eq, gNil_eq, tDGet, sDPut, tMeth, tMake, tFld, tChain, tIsN, tNotN,
  List.set_cons_zero, List.set_cons_succ, exists_eq_left', exists_eq_left, exists_eq, V.int.injEq, V.str.injEq, V.bl.injEq, V.ref.injEq, List.cons.injEq, and_true, true_and, List.getElem?_cons_zero, List.getElem?_cons_succ, Option.some.injEq, List.append_nil, exists_and_left, cxOf_K, false_and, and_false, exists_false, false_or, or_false, exists_eq', exists_const, sg_eq, S_eq, S_toList, S_ne, tFor_eq, tLc_eq, iList_eq, iTup_eq, iRng1_eq, iStr_eq, decide_eq_true_eq, Bool.not_eq_true', decide_eq_false_iff_not, if_true, if_false, Bool.false_eq_true, reduceCtorEq, Bool.true_eq_false, decide_true, decide_false]
      exact action_ B2 fun v a G2 H2 h1 h2 s2 B2 d => q2 _ G2 H2 s2 B2 ⟨a, h1, h2, d⟩
    · obtain ⟨e, he, hd, hk⟩ : ∃ e : List Act, e.length = acc.length ∧ DpAll K G' acc (e.map actD) ∧ ∀ a ∈ e, actOk a ∧ plainA a := by
        clear hl hlen q
        induction acc with
        | nil => exact ⟨[], rfl, .nil, fun _ h => nomatch h⟩
        | cons v r ih =>
          obtain ⟨e, h1, h2, h3⟩ := ih fun v hv => hp v (List.mem_cons_of_mem _ hv)
          obtain ⟨a, ha, hb, hc⟩ := hp v List.mem_cons_self
          refine ⟨a :: e, by rw [List.length_cons, List.length_cons, h1], .cons hc h2, fun x hx => ?_⟩
          rcases List.mem_cons.mp hx with h | h
          · rw [h]
            exact ⟨ha, hb⟩
          · exact h3 x h
      exact q L e G' H' (he.trans hlen) hk s' B2 ⟨acc, hl, hd⟩
  have out : ∀ (m : Nat), 1 ≤ m → m ≤ 4 → ∀ (L : Addr) (e : List Act) G' H', e.length = m → (∀ a ∈ e, actOk a ∧ plainA a) → Same G G' → Bx b G' H' → (∃ vs, G' L = some (.lst vs) ∧ DpAll K G' vs (e.map actD)) →
      ∃ p x, V.ref L = V.ref p ∧ ((SqL K H' p x ∧ ∀ l, H' l = none → Q (.ref l) (upd H' l (.tup x))) ∨ SqT K H' p x ∧ Q (.ref p) H') := by
    intro m h1 h4 L e G' H' he hk s' B' hv
    obtain ⟨vs, hl, hd⟩ := hv
    refine ⟨L, vs, rfl, .inl ⟨sq_of (B'.ex _ _ hl), fun l nl => ?_⟩⟩
    have nl' := nl
    generalize hq : upd H' l _ = H2
    obtain ⟨G2, gl, e2, B2, f2⟩ := alB_ B' nl hq
    exact k _ e G2 H2 (by omega) (by omega) hk (s'.trans e2) B2 (.tup (st_of f2) (DpAll.ext e2 hd))
  refine ite2 (fun _ => ?_) (fun _ => ⟨by decide, by decide, fun L hL => ?_⟩)
  · refine take_ B1 (by decide) (by decide) fun r2 H2 hr2 B2 => ?_
    simp only [tSeq, tAsg, tAnd, tOr, tNot, tTest, tB, tOp, tUn, tCB, tCons, tNil, tVar, tC, gName, rI0, rI, rU, rEq, rNe, rIxS, rIxL, rIxT, tRet, tRetN, tTup, tLst, tSl, tPart, tNoPart, rSlS, tIf, tIfS, tNext, tDrop, tCall, tBM, tBM0, tAndV, tOrV, tNotV, tM0, tM1, gSub, rSetL, sFld, gCons_eq, gNil_eq, tDGet, sDPut, tMeth, tMake, tFld, tChain, tIsN, tNotN,
  List.set_cons_zero, List.set_cons_succ, exists_eq_left', exists_eq_left, exists_eq, V.int.injEq, V.str.injEq, V.bl.injEq, V.ref.injEq, List.cons.injEq, and_true, true_and, List.getElem?_cons_zero, List.getElem?_cons_succ, Option.some.injEq, List.append_nil, exists_and_left, cxOf_K, false_and, and_false, exists_false, false_or, or_false, exists_eq', exists_const, sg_eq, S_eq, S_toList, S_ne, tFor_eq, tLc_eq, iList_eq, iTup_eq, iRng1_eq, iStr_eq, decide_eq_true_eq, Bool.not_eq_true', decide_eq_false_iff_not, if_true, if_false, Bool.false_eq_true, reduceCtorEq, Bool.true_eq_false, decide_true, decide_false]
    refine ⟨by omega, by omega, fun L hL => ?_⟩
    exact fin (1 + r2) _ H2 (by omega) (by omega) (by omega) B2 _ (fun L e G' H' he hk s' B' hv => by
      obtain ⟨p, x, h1, h2⟩ := out (1 + r2) (by omega) (by omega) L e G' H' he hk s' B' hv
      exact ⟨p, h1, x, h2⟩) L hL
  · exact fin 1 _ H1 rfl (by omega) (by omega) B1 _ (fun L e G' H' he hk s' B' hv => by
      obtain ⟨p, x, h1, h2⟩ := out 1 (by omega) (by omega) L e G' H' he hk s' B' hv
      exact ⟨p, h1, x, h2⟩) L hL
theorem entry_ {b : Addr} {G H : Hp} {Q : VK} {E : XK} (B : Bx b G H) (k : ∀ (v : V) (e : List Act) G' H', 1 ≤ e.length → e.length ≤ 4 → (∀ a ∈ e, actOk a ∧ plainA a) → Same G G' → Bx b G' H' → Dp K G' v (entD e) → Q v H') : sp_entry K [.ref b] H Q E := ⟨b, G, rfl, B, k⟩
end
/-! ### endings: the program's -/
def vow (c : Nat) : Bool := [97, 101, 105, 111, 117].contains c
def small (c : Nat) : Bool := 97 ≤ c && c ≤ 122
def cons (c : Nat) : Bool := small c && !vow c
theorem small_mem (c : Nat) : c ∈ [97, 98, 99, 100, 101, 102, 103, 104, 105, 106, 107, 108, 109, 110, 111, 112, 113, 114, 115, 116, 117, 118, 119, 120, 121, 122] ↔ small c = true := by
  simp only [List.mem_cons, List.not_mem_nil, or_false, small, Bool.and_eq_true, decide_eq_true_eq]
  omega
theorem vow_mem (c : Nat) : c ∈ [97, 101, 105, 111, 117] ↔ vow c = true := by
  simp only [vow, List.contains_iff_mem]
def consT : Tx → Bool
  | [c] => cons c
  | _ => false
def sp_consonant : Sp := fun vs H Q _ => ∃ t : Tx, vs = [.str (S t)] ∧ t.length ≤ 1 ∧ Q (.bl (consT t)) H
abbrev s_is_consonant : Stmt := (top 3)
theorem sc_is_consonant : FnScope ["sign"] ["sign"] (defScope s_is_consonant) := ⟨rfl, rfl, rfl, by decide +kernel, rfl, by decide +kernel, by decide +kernel⟩

section
variable {P : Program} {w : World} {K : PySem.W.Frag} {mg : Str → Option Value} {base : Heap}
theorem ok_consonant {f : Addr} {fd : FuncData} (F : FunS K "is_consonant" s_is_consonant f fd) (g_LETTERS_endings : ∃ u, mg "LETTERS_endings" = some u ∧ RelV (.str (S [97, 98, 99, 100, 101, 102, 103, 104, 105, 106, 107, 108, 109, 110, 111, 112, 113, 114, 115, 116, 117, 118, 119, 120, 121, 122])) u) (g_VOWELS : ∃ u, mg "VOWELS" = some u ∧ RelV (.str (S [97, 101, 105, 111, 117])) u) : FnOk P w K mg base CX0 1 f fd ["sign"] sp_consonant := by
  refine F.ok sc_is_consonant (fun vs H Q E h => ?_) (fun cdv A outer s H vs Q E hr h => ?_)
  · obtain ⟨t, rfl, _⟩ := h
    rfl
  obtain ⟨t, rfl, ht, k⟩ := h
  refine ⟨_, PSs.nox (pss_one (ps_ret (pe_and (pe_cmpR op_ne (pv 0) pe_str (nomark _)) (pe_and (pe_cmpR op_in_sign (pv 0) (pe_gc (by rfl) g_LETTERS_endings) rfl) (pe_one (pe_cmpR op_notIn_sign (pv 0) (pe_gc (by rfl) g_VOWELS) rfl)))))), ?_⟩
  simp only [tSeq, tAsg, tAnd, tOr, tNot, tTest, tB, tOp, tUn, tCB, tCons, tNil, tVar, tC, gName, rI0, rI, rU, rEq, rNe, rIxS, rIxL, rIxT, tRet, tRetN, tTup, tLst, tSl, tPart, tNoPart, rSlS, tIf, tIfS, tNext, tDrop, tCall, tBM, tBM0, tAndV, tOrV, tNotV, tM0, tM1, gSub, rSetL, sFld, gCons_eq, gNil_eq, tDGet, sDPut, tMeth, tMake, tFld, tChain, tIsN, tNotN,
  List.set_cons_zero, List.set_cons_succ, exists_eq_left', exists_eq_left, exists_eq, V.int.injEq, V.str.injEq, V.bl.injEq, V.ref.injEq, List.cons.injEq, and_true, true_and, List.getElem?_cons_zero, List.getElem?_cons_succ, Option.some.injEq, List.append_nil, exists_and_left, cxOf_K, false_and, and_false, exists_false, false_or, or_false, exists_eq', exists_const, sg_eq, S_eq, S_toList, S_ne, tFor_eq, tLc_eq, iList_eq, iTup_eq, iRng1_eq, iStr_eq, decide_eq_true_eq, Bool.not_eq_true', decide_eq_false_iff_not, if_true, if_false, Bool.false_eq_true, reduceCtorEq, Bool.true_eq_false, decide_true, decide_false, lit_, start1_1]
  refine ⟨rfl, ?_⟩
  match t, ht with
  | [], _ =>
    simp only [not_true_eq_false, if_false]
    exact k
  | [c], _ =>
    simp only [tSeq, tAsg, tAnd, tOr, tNot, tTest, tB, tOp, tUn, tCB, tCons, tNil, tVar, tC, gName, rI0, rI, rU, rEq, rNe, rIxS, rIxL, rIxT, tRet, tRetN, tTup, tLst, tSl, tPart, tNoPart, rSlS, tIf, tIfS, tNext, tDrop, tCall, tBM, tBM0, tAndV, tOrV, tNotV, tM0, tM1, gSub, rSetL, sFld, gCons_eq, gNil_eq, tDGet, sDPut, tMeth, tMake, tFld, tChain, tIsN, tNotN,
  List.set_cons_zero, List.set_cons_succ, exists_eq_left', exists_eq_left, exists_eq, V.int.injEq, V.str.injEq, V.bl.injEq, V.ref.injEq, List.cons.injEq, and_true, true_and, List.getElem?_cons_zero, List.getElem?_cons_succ, Option.some.injEq, List.append_nil, exists_and_left, cxOf_K, false_and, and_false, exists_false, false_or, or_false, exists_eq', exists_const, sg_eq, S_eq, S_toList, S_ne, tFor_eq, tLc_eq, iList_eq, iTup_eq, iRng1_eq, iStr_eq, decide_eq_true_eq, Bool.not_eq_true', decide_eq_false_iff_not, if_true, if_false, Bool.false_eq_true, reduceCtorEq, Bool.true_eq_false, decide_true, decide_false, not_false_eq_true, small_mem, vow_mem]
    by_cases h : small c = true
    · rw [if_pos h]
      have e : consT [c] = !decide (vow c = true) := by
        simp only [consT, cons, h, Bool.true_and]
        cases vow c <;> rfl
      rw [← e]
      exact k
    · rw [if_neg h]
      have e : consT [c] = false := by
        simp only [consT, cons, Bool.not_eq_true] at h ⊢
        rw [h]
        rfl
      rw [← e]
      exact k
/-- on the text from its end -/
def shortR : Tx → Bool
  | c :: b :: a :: r => !([119, 120, 121].contains c) && cons c && vow b && cons a && !(r.any vow)
  | _ => false
theorem revs (l : Tx) : l = [] ∨ (∃ c, l = [c]) ∨ (∃ c b, l = [b, c]) ∨ ∃ r a b c, l = r ++ [a, b, c] := by
  have h : ∀ m : Tx, m.reverse = [] ∨ (∃ c, m.reverse = [c]) ∨ (∃ c b, m.reverse = [b, c]) ∨ ∃ r a b c, m.reverse = r ++ [a, b, c] := by
    intro m
    match m with
    | [] => exact .inl rfl
    | [c] => exact .inr (.inl ⟨c, rfl⟩)
    | [c, b] => exact .inr (.inr (.inl ⟨c, b, rfl⟩))
    | c :: b :: a :: r => exact .inr (.inr (.inr ⟨r.reverse, a, b, c, by simp⟩))
  have q := h l.reverse
  rw [List.reverse_reverse] at q
  exact q
def sp_short : Sp := fun vs H Q _ => ∃ t : Tx, vs = [.str (S t)] ∧ t.length ≤ 100000 ∧ asc t ∧ ∀ H', Same H H' → Q (.bl (shortR t.reverse)) H'
abbrev s_is_short : Stmt := (top 4)
theorem sc_is_short : FnScope ["word", "sign"] ["word"] (defScope s_is_short) := ⟨rfl, rfl, rfl, by decide +kernel, rfl, by decide +kernel, by decide +kernel⟩

theorem ok_short {f : Addr} {fd : FuncData} (F : FunS K "is_short" s_is_short f fd) (b_len : mg "len" = none) (g_VOWELS : ∃ u, mg "VOWELS" = some u ∧ RelV (.str (S [97, 101, 105, 111, 117])) u) (c_is_consonant : Cal P w K mg base CX0 1 "is_consonant" sp_consonant) : FnOk P w K mg base CX0 2 f fd ["word"] sp_short := by
  refine F.ok sc_is_short (fun vs H Q E h => ?_) (fun cdv A outer s H vs Q E hr h => ?_)
  · obtain ⟨t, rfl, _⟩ := h
    rfl
  obtain ⟨t, rfl, ht, as, k⟩ := h
  refine ⟨_, PSs.nox (pss_cons (ps_if (PW.pt (pw_or (pt_cmpR op_lt (pe_callB call_len_str (by rfl) b_len PySem.boot_len (pa_cons (pv 0) pa_nil)) pe_int (nomark _)) (pw_or (pt_cmpR op_in_sign (pe_ix ix_str (pv 0) (pe_un un_neg pe_int) (fun _ _ => rfl)) pe_str rfl) (pw_or1 (pt_not (pt_val (pe_c c_is_consonant hr (by first | decide | omega) (by rfl) (pa_cons (pe_ix ix_str (pv 0) (pe_un un_neg pe_int) (fun _ _ => rfl)) pa_nil))))))))
    (pss_one (ps_ret pe_bl))
    pss_nil)
  (pss_cons (ps_if (PW.pt (pw_or (pt_cmpR op_notIn_sign (pe_ix ix_str (pv 0) (pe_un un_neg pe_int) (fun _ _ => rfl)) (pe_gc (by rfl) g_VOWELS) rfl) (pw_or1 (pt_not (pt_val (pe_c c_is_consonant hr (by first | decide | omega) (by rfl) (pa_cons (pe_ix ix_str (pv 0) (pe_un un_neg pe_int) (fun _ _ => rfl)) pa_nil)))))))
    (pss_one (ps_ret pe_bl))
    pss_nil)
  (pss_one (ps_ret (pe_cmpR (op_eqD hr.units) (pe_lc (own := [("sign", 1)]) rfl sc_is_short.nd (pi_str (pe_slice sl_str (pv 0) po_none (po_some (pe_un un_neg pe_int)))) (blkOk_by (N := ["word", "sign"]) (sc := defScope s_is_short) (own := [("sign", 1)]) (by decide +kernel)) (fun _ _ _ _ _ => (pg_name (i := 1) sc_is_short.nd rfl (.inl rfl))) (fun _ _ _ _ _ => (pts_one (pt_cmpR op_in_sign (pv 1) (pe_gc (by rfl) g_VOWELS) rfl))) (fun _ _ _ _ _ => (pv 1))) (pe_lst pa_nil) (nomark _)))))), ?_⟩
  simp only [tSeq, tAsg, tAnd, tOr, tNot, tTest, tB, tOp, tUn, tCB, tCons, tNil, tVar, tC, gName, rI0, rI, rU, rEq, rNe, rIxS, rIxL, rIxT, tRet, tRetN, tTup, tLst, tSl, tPart, tNoPart, rSlS, tIf, tNext, tDrop, tCall, tBM, tBM0, tAndV, tOrV, tNotV, tM0, tM1, gSub, rSetL, sFld, gCons_eq, gNil_eq, tDGet, sDPut, tMeth, tMake, tFld, tChain, tIsN, tNotN,
  List.set_cons_zero, List.set_cons_succ, exists_eq_left', exists_eq_left, exists_eq, V.int.injEq, V.str.injEq, V.bl.injEq, V.ref.injEq, List.cons.injEq, and_true, true_and, List.getElem?_cons_zero, List.getElem?_cons_succ, Option.some.injEq, List.append_nil, exists_and_left, cxOf_K, false_and, and_false, exists_false, false_or, or_false, exists_eq', exists_const, sg_eq, S_eq, S_toList, S_ne, tFor_eq, tLc_eq, iList_eq, iTup_eq, iRng1_eq, iStr_eq, decide_eq_true_eq, Bool.not_eq_true', decide_eq_false_iff_not, if_true, if_false, Bool.false_eq_true, reduceCtorEq, Bool.true_eq_false, decide_true, decide_false, lit_119_120_121, start1_2]
  have sz := size_le (Nat.le_trans ht (by decide))
  rcases revs t with rfl | ⟨c, rfl⟩ | ⟨c, b, rfl⟩ | ⟨r, a, b, c, rfl⟩
  · refine if_pure true (fun R r => ?_) (fun _ => ?_) (fun z => nomatch z)
    · simp only [tSeq, tAsg, tAnd, tOr, tNot, tTest, tB, tOp, tUn, tCB, tCons, tNil, tVar, tC, gName, rI0, rI, rU, rEq, rNe, rIxS, rIxL, rIxT, tRet, tRetN, tTup, tLst, tSl, tPart, tNoPart, rSlS, tIf, tIfS, tNext, tDrop, tCall, tBM, tBM0, tAndV, tOrV, tNotV, tM0, tM1, gSub, rSetL, sFld, gCons_eq, gNil_eq, tDGet, sDPut, tMeth, tMake, tFld, tChain, tIsN, tNotN,
  List.set_cons_zero, List.set_cons_succ, exists_eq_left', exists_eq_left, exists_eq, V.int.injEq, V.str.injEq, V.bl.injEq, V.ref.injEq, List.cons.injEq, and_true, true_and, List.getElem?_cons_zero, List.getElem?_cons_succ, Option.some.injEq, List.append_nil, exists_and_left, cxOf_K, false_and, and_false, exists_false, false_or, or_false, exists_eq', exists_const, sg_eq, S_eq, S_toList, S_ne, tFor_eq, tLc_eq, iList_eq, iTup_eq, iRng1_eq, iStr_eq, decide_eq_true_eq, Bool.not_eq_true', decide_eq_false_iff_not, if_true, if_false, Bool.false_eq_true, reduceCtorEq, Bool.true_eq_false, decide_true, decide_false, S_len]
      exact ⟨by decide, r⟩
    · exact k _ (Same.refl _)
  · refine if_pure true (fun R r => ?_) (fun _ => ?_) (fun z => nomatch z)
    · simp only [tSeq, tAsg, tAnd, tOr, tNot, tTest, tB, tOp, tUn, tCB, tCons, tNil, tVar, tC, gName, rI0, rI, rU, rEq, rNe, rIxS, rIxL, rIxT, tRet, tRetN, tTup, tLst, tSl, tPart, tNoPart, rSlS, tIf, tIfS, tNext, tDrop, tCall, tBM, tBM0, tAndV, tOrV, tNotV, tM0, tM1, gSub, rSetL, sFld, gCons_eq, gNil_eq, tDGet, sDPut, tMeth, tMake, tFld, tChain, tIsN, tNotN,
  List.set_cons_zero, List.set_cons_succ, exists_eq_left', exists_eq_left, exists_eq, V.int.injEq, V.str.injEq, V.bl.injEq, V.ref.injEq, List.cons.injEq, and_true, true_and, List.getElem?_cons_zero, List.getElem?_cons_succ, Option.some.injEq, List.append_nil, exists_and_left, cxOf_K, false_and, and_false, exists_false, false_or, or_false, exists_eq', exists_const, sg_eq, S_eq, S_toList, S_ne, tFor_eq, tLc_eq, iList_eq, iTup_eq, iRng1_eq, iStr_eq, decide_eq_true_eq, Bool.not_eq_true', decide_eq_false_iff_not, if_true, if_false, Bool.false_eq_true, reduceCtorEq, Bool.true_eq_false, decide_true, decide_false, S_len]
      exact ⟨sz, r⟩
    · exact k _ (Same.refl _)
  · refine if_pure true (fun R r => ?_) (fun _ => ?_) (fun z => nomatch z)
    · simp only [tSeq, tAsg, tAnd, tOr, tNot, tTest, tB, tOp, tUn, tCB, tCons, tNil, tVar, tC, gName, rI0, rI, rU, rEq, rNe, rIxS, rIxL, rIxT, tRet, tRetN, tTup, tLst, tSl, tPart, tNoPart, rSlS, tIf, tIfS, tNext, tDrop, tCall, tBM, tBM0, tAndV, tOrV, tNotV, tM0, tM1, gSub, rSetL, sFld, gCons_eq, gNil_eq, tDGet, sDPut, tMeth, tMake, tFld, tChain, tIsN, tNotN,
  List.set_cons_zero, List.set_cons_succ, exists_eq_left', exists_eq_left, exists_eq, V.int.injEq, V.str.injEq, V.bl.injEq, V.ref.injEq, List.cons.injEq, and_true, true_and, List.getElem?_cons_zero, List.getElem?_cons_succ, Option.some.injEq, List.append_nil, exists_and_left, cxOf_K, false_and, and_false, exists_false, false_or, or_false, exists_eq', exists_const, sg_eq, S_eq, S_toList, S_ne, tFor_eq, tLc_eq, iList_eq, iTup_eq, iRng1_eq, iStr_eq, decide_eq_true_eq, Bool.not_eq_true', decide_eq_false_iff_not, if_true, if_false, Bool.false_eq_true, reduceCtorEq, Bool.true_eq_false, decide_true, decide_false, S_len]
      exact ⟨sz, r⟩
    · exact k _ (Same.refl _)
  · have l1 : atI (r ++ [a, b, c]) (-1) = some c := by
      have e := atI_neg (r ++ [a, b, c]) 1 (by decide) (by simp)
      simpa using e
    have l2 : atI (r ++ [a, b, c]) (-2) = some b := by
      have e := atI_neg (r ++ [a, b, c]) 2 (by decide) (by simp)
      simpa using e
    have l3 : atI (r ++ [a, b, c]) (-3) = some a := by
      have e := atI_neg (r ++ [a, b, c]) 3 (by decide) (by simp)
      simpa using e
    have hl : ¬ (((r ++ [a, b, c]).length : Int) < 3) := by simp; omega
    refine if_pure ([119, 120, 121].contains c || !cons c) (fun R q => ?_) (fun e => ?_) (fun e => ?_)
    · simp only [tSeq, tAsg, tAnd, tOr, tNot, tTest, tB, tOp, tUn, tCB, tCons, tNil, tVar, tC, gName, rI0, rI, rU, rEq, rNe, rIxS, rIxL, rIxT, tRet, tRetN, tTup, tLst, tSl, tPart, tNoPart, rSlS, tIf, tIfS, tNext, tDrop, tCall, tBM, tBM0, tAndV, tOrV, tNotV, tM0, tM1, gSub, rSetL, sFld, gCons_eq, gNil_eq, tDGet, sDPut, tMeth, tMake, tFld, tChain, tIsN, tNotN,
  List.set_cons_zero, List.set_cons_succ, exists_eq_left', exists_eq_left, exists_eq, V.int.injEq, V.str.injEq, V.bl.injEq, V.ref.injEq, List.cons.injEq, and_true, true_and, List.getElem?_cons_zero, List.getElem?_cons_succ, Option.some.injEq, List.append_nil, exists_and_left, cxOf_K, false_and, and_false, exists_false, false_or, or_false, exists_eq', exists_const, sg_eq, S_eq, S_toList, S_ne, tFor_eq, tLc_eq, iList_eq, iTup_eq, iRng1_eq, iStr_eq, decide_eq_true_eq, Bool.not_eq_true', decide_eq_false_iff_not, if_true, if_false, Bool.false_eq_true, reduceCtorEq, Bool.true_eq_false, decide_true, decide_false, S_len, hl, l1]
      refine ⟨sz, sz, ite2 (fun h => ?_) (fun h => ⟨sz, [c], rfl, by simp, _, rfl, ?_⟩)⟩
      · rw [List.contains_iff_mem.mpr h] at q
        exact q
      · rw [show [119, 120, 121].contains c = false from Bool.eq_false_iff.mpr fun z => h (List.contains_iff_mem.mp z)] at q
        exact q
    · simp only [tSeq, tAsg, tAnd, tOr, tNot, tTest, tB, tOp, tUn, tCB, tCons, tNil, tVar, tC, gName, rI0, rI, rU, rEq, rNe, rIxS, rIxL, rIxT, tRet, tRetN, tTup, tLst, tSl, tPart, tNoPart, rSlS, tIf, tIfS, tNext, tDrop, tCall, tBM, tBM0, tAndV, tOrV, tNotV, tM0, tM1, gSub, rSetL, sFld, gCons_eq, gNil_eq, tDGet, sDPut, tMeth, tMake, tFld, tChain, tIsN, tNotN,
  List.set_cons_zero, List.set_cons_succ, exists_eq_left', exists_eq_left, exists_eq, V.int.injEq, V.str.injEq, V.bl.injEq, V.ref.injEq, List.cons.injEq, and_true, true_and, List.getElem?_cons_zero, List.getElem?_cons_succ, Option.some.injEq, List.append_nil, exists_and_left, cxOf_K, false_and, and_false, exists_false, false_or, or_false, exists_eq', exists_const, sg_eq, S_eq, S_toList, S_ne, tFor_eq, tLc_eq, iList_eq, iTup_eq, iRng1_eq, iStr_eq, decide_eq_true_eq, Bool.not_eq_true', decide_eq_false_iff_not, if_true, if_false, Bool.false_eq_true, reduceCtorEq, Bool.true_eq_false, decide_true, decide_false]
      have e2 : shortR (r ++ [a, b, c]).reverse = false := by
        simp only [List.reverse_append, List.reverse_cons, List.reverse_nil, List.nil_append, List.cons_append, shortR]
        cases h1 : [119, 120, 121].contains c <;> cases h2 : cons c <;> simp_all
      have q := k H (Same.refl _)
      rw [e2] at q
      exact q
    · rw [Bool.or_eq_false_iff, Bool.not_eq_false'] at e
      simp only [tSeq, tAsg, tAnd, tOr, tNot, tTest, tB, tOp, tUn, tCB, tCons, tNil, tVar, tC, gName, rI0, rI, rU, rEq, rNe, rIxS, rIxL, rIxT, tRet, tRetN, tTup, tLst, tSl, tPart, tNoPart, rSlS, tIf, tNext, tDrop, tCall, tBM, tBM0, tAndV, tOrV, tNotV, tM0, tM1, gSub, rSetL, sFld, gCons_eq, gNil_eq, tDGet, sDPut, tMeth, tMake, tFld, tChain, tIsN, tNotN,
  List.set_cons_zero, List.set_cons_succ, exists_eq_left', exists_eq_left, exists_eq, V.int.injEq, V.str.injEq, V.bl.injEq, V.ref.injEq, List.cons.injEq, and_true, true_and, List.getElem?_cons_zero, List.getElem?_cons_succ, Option.some.injEq, List.append_nil, exists_and_left, cxOf_K, false_and, and_false, exists_false, false_or, or_false, exists_eq', exists_const, sg_eq, S_eq, S_toList, S_ne, tFor_eq, tLc_eq, iList_eq, iTup_eq, iRng1_eq, iStr_eq, decide_eq_true_eq, Bool.not_eq_true', decide_eq_false_iff_not, if_true, if_false, Bool.false_eq_true, reduceCtorEq, Bool.true_eq_false, decide_true, decide_false]
      refine if_pure (!vow b || !cons a) (fun R q => ?_) (fun e3 => ?_) (fun e3 => ?_)
      · simp only [tSeq, tAsg, tAnd, tOr, tNot, tTest, tB, tOp, tUn, tCB, tCons, tNil, tVar, tC, gName, rI0, rI, rU, rEq, rNe, rIxS, rIxL, rIxT, tRet, tRetN, tTup, tLst, tSl, tPart, tNoPart, rSlS, tIf, tIfS, tNext, tDrop, tCall, tBM, tBM0, tAndV, tOrV, tNotV, tM0, tM1, gSub, rSetL, sFld, gCons_eq, gNil_eq, tDGet, sDPut, tMeth, tMake, tFld, tChain, tIsN, tNotN,
  List.set_cons_zero, List.set_cons_succ, exists_eq_left', exists_eq_left, exists_eq, V.int.injEq, V.str.injEq, V.bl.injEq, V.ref.injEq, List.cons.injEq, and_true, true_and, List.getElem?_cons_zero, List.getElem?_cons_succ, Option.some.injEq, List.append_nil, exists_and_left, cxOf_K, false_and, and_false, exists_false, false_or, or_false, exists_eq', exists_const, sg_eq, S_eq, S_toList, S_ne, tFor_eq, tLc_eq, iList_eq, iTup_eq, iRng1_eq, iStr_eq, decide_eq_true_eq, Bool.not_eq_true', decide_eq_false_iff_not, if_true, if_false, Bool.false_eq_true, reduceCtorEq, Bool.true_eq_false, decide_true, decide_false, S_len, l2, l3, vow_mem]
        refine ⟨sz, ?_⟩
        cases hb : vow b with
        | false =>
          rw [hb] at q
          simp only [Bool.false_eq_true, not_false_eq_true, if_true]
          exact q
        | true =>
          rw [hb] at q
          simp only [not_true_eq_false, if_false]
          exact ⟨sz, [a], rfl, by simp, _, rfl, q⟩
      · have e2 : shortR (r ++ [a, b, c]).reverse = false := by
          simp only [List.reverse_append, List.reverse_cons, List.reverse_nil, List.nil_append, List.cons_append, shortR]
          cases h1 : vow b <;> cases h2 : cons a <;> simp_all
        have q := k H (Same.refl _)
        rw [e2] at q
        exact q
      · rw [Bool.or_eq_false_iff, Bool.not_eq_false', Bool.not_eq_false'] at e3
        simp only [tSeq, tAsg, tAnd, tOr, tNot, tTest, tB, tOp, tUn, tCB, tCons, tNil, tVar, tC, gName, rI0, rI, rU, rEq, rNe, rIxS, rIxL, rIxT, tRet, tRetN, tTup, tLst, tSl, tPart, tNoPart, rSlS, tIf, tIfS, tNext, tDrop, tCall, tBM, tBM0, tAndV, tOrV, tNotV, tM0, tM1, gSub, rSetL, sFld, gCons_eq, gNil_eq, tDGet, sDPut, tMeth, tMake, tFld, tChain, tIsN, tNotN,
  List.set_cons_zero, List.set_cons_succ, exists_eq_left', exists_eq_left, exists_eq, V.int.injEq, V.str.injEq, V.bl.injEq, V.ref.injEq, List.cons.injEq, and_true, true_and, List.getElem?_cons_zero, List.getElem?_cons_succ, Option.some.injEq, List.append_nil, exists_and_left, cxOf_K, false_and, and_false, exists_false, false_or, or_false, exists_eq', exists_const, sg_eq, S_eq, S_toList, S_ne, tFor_eq, tLc_eq, iList_eq, iTup_eq, iRng1_eq, iStr_eq, decide_eq_true_eq, Bool.not_eq_true', decide_eq_false_iff_not, if_true, if_false, Bool.false_eq_true, reduceCtorEq, Bool.true_eq_false, decide_true, decide_false]
        refine ⟨sz, fun L hL => ?_⟩
        have ct : cutS (S (r ++ [a, b, c])) none (some (-2)) = S (r ++ [a]) := by
          rw [cutS_S]
          have e4 := cutL_toneg (r ++ [a, b, c]) 2 (by decide)
          have e5 : (r ++ [a, b, c]).take ((r ++ [a, b, c]).length - 2) = r ++ [a] := by
            have e6 : r ++ [a, b, c] = (r ++ [a]) ++ [b, c] := by simp
            rw [e6]
            have e7 : (r ++ [a] ++ [b, c]).length - 2 = (r ++ [a]).length := by simp
            rw [e7, List.take_left']
            rfl
          rw [e5] at e4
          exact congrArg S e4
        rw [ct]
        have lr : (r ++ [a]).length ≤ 100000 := by
          simp only [List.length_append, List.length_cons, List.length_nil] at ht ⊢
          omega
        have asr : asc (r ++ [a]) := fun x hx => as x (by
          rcases List.mem_append.mp hx with h | h
          · exact List.mem_append_left _ h
          · exact List.mem_append_right _ (by rw [List.mem_singleton.mp h]; exact List.mem_cons_self))
        refine comp_str (r ++ [a]) (fun rest acc H1 => ∃ done, r ++ [a] = done ++ rest ∧ acc = (done.filter vow).map (fun x => V.str (S [x])) ∧ Same H H1) (by omega) ⟨[], rfl, rfl, same_new hL⟩ upd_same ?_ ?_
        · rintro i x rest acc H1 hA hn hi ⟨done, e4, rfl, s1⟩
          simp only [wipe, List.map_cons, List.map_nil, List.set_cons_succ, List.set_cons_zero, tSeq, tAsg, tAnd, tOr, tNot, tTest, tB, tOp, tUn, tCB, tCons, tNil, tVar, tC, gName, rI0, rI, rU, rEq, rNe, rIxS, rIxL, rIxT, tRet, tRetN, tTup, tLst, tSl, tPart, tNoPart, rSlS, tIf, tIfS, tNext, tDrop, tCall, tBM, tBM0, tAndV, tOrV, tNotV, tM0, tM1, gSub, rSetL, sFld, gCons_eq, gNil_eq, tDGet, sDPut, tMeth, tMake, tFld, tChain, tIsN, tNotN,
  List.set_cons_zero, List.set_cons_succ, exists_eq_left', exists_eq_left, exists_eq, V.int.injEq, V.str.injEq, V.bl.injEq, V.ref.injEq, List.cons.injEq, and_true, true_and, List.getElem?_cons_zero, List.getElem?_cons_succ, Option.some.injEq, List.append_nil, exists_and_left, cxOf_K, false_and, and_false, exists_false, false_or, or_false, exists_eq', exists_const, sg_eq, S_eq, S_toList, S_ne, tFor_eq, tLc_eq, iList_eq, iTup_eq, iRng1_eq, iStr_eq, decide_eq_true_eq, Bool.not_eq_true', decide_eq_false_iff_not, if_true, if_false, Bool.false_eq_true, reduceCtorEq, Bool.true_eq_false, decide_true, decide_false, vow_mem]
          refine ite2 (fun hv => ?_) (fun hv => ?_)
          · refine cput hA hn hi ⟨done ++ [x], by rw [e4]; simp, by rw [List.filter_append]; simp [hv], same_mut s1 hL⟩
          · refine cskip hA hn ⟨done ++ [x], by rw [e4]; simp, by rw [List.filter_append]; simp [hv], s1⟩
        · rintro acc H1 hA hn ⟨done, e4, rfl, s1⟩
          rw [List.append_nil] at e4
          subst e4
          refine ⟨(size_le (by simp only [List.length_cons, List.length_nil]; decide)), ?_⟩
          intro p np
          have dl : Dp K (upd H1 p (.lst [])) (.ref L) (.list (((r ++ [a]).filter vow).map fun x => PyData.str (S [x]))) := by
            have h1 : (upd H1 p (.lst [])) L = some (.lst (((r ++ [a]).filter vow).map fun x => V.str (S [x]))) := by
              rw [upd_ne (ne_of_none hA np)]
              exact hA
            have e5 := dp_strs (K := K) (H := upd H1 p (.lst [])) (((r ++ [a]).filter vow).map fun x => S [x])
            rw [List.map_map, List.map_map] at e5
            exact .lst (sq_of h1) e5
          have okl : okD 2 (.list (((r ++ [a]).filter vow).map fun x => PyData.str (S [x]))) := by
            refine ⟨by rw [List.length_map]; exact Nat.le_trans (List.length_filter_le _ _) lr, fun d hd => ?_⟩
            obtain ⟨x, hx, rfl⟩ := List.mem_map.mp hd
            exact asc_ok fun y hy => by
              rw [List.mem_singleton.mp hy]
              exact asr x (List.mem_filter.mp hx).1
          refine ⟨_, .list [], dl, .lst (sq_of upd_same) .nil, okl.shaped (by decide), rfl, ?_⟩
          rw [eqv_nil]
          have q := k (upd H1 p (.lst [])) (s1.trans (same_new np))
          have e8 : shortR (r ++ [a, b, c]).reverse = (((r ++ [a]).filter vow).map fun x => PyData.str (S [x])).isEmpty := by
            have va : vow a = false := by
              have h := e3.2
              simp only [cons, Bool.and_eq_true, Bool.not_eq_true'] at h
              exact h.2
            have ea : (r ++ [a]).filter vow = r.filter vow := by
              rw [List.filter_append]
              simp [va]
            rw [ea]
            simp only [List.reverse_append, List.reverse_cons, List.reverse_nil, List.nil_append, List.cons_append, shortR, e.1, e.2, e3.1, e3.2, Bool.not_false, Bool.true_and, List.any_reverse]
            rw [Bool.eq_iff_iff, List.isEmpty_iff, List.map_eq_nil_iff, List.filter_eq_nil_iff, Bool.not_eq_true', List.any_eq_false]
          rw [e8] at q
          exact q
end
/-! ### a word with an ending -/
abbrev lo (t : Tx) : Tx := t.map PyProof.Rows.lo1
def letr (c : Nat) : Bool := small (PyProof.Rows.lo1 c)
theorem letr_lt {c : Nat} (h : letr c = true) : c < 128 := by
  simp only [letr, small, Bool.and_eq_true, decide_eq_true_eq] at h
  have : c ≤ PyProof.Rows.lo1 c := by
    simp only [PyProof.Rows.lo1]
    split <;> omega
  omega
theorem lo1_lt {c : Nat} (h : c < 128) : PyProof.Rows.lo1 c < 128 := by
  simp only [PyProof.Rows.lo1]
  split <;> omega
theorem all_asc {t : Tx} (h : asc t) : t.all (· < 128) = true := List.all_eq_true.mpr fun c hc => decide_eq_true (h c hc)
theorem asc_lo {t : Tx} (h : asc t) : asc (lo t) := fun c hc => by
  obtain ⟨x, hx, rfl⟩ := List.mem_map.mp hc
  exact lo1_lt (h x hx)
theorem lower_lo {t : Tx} (h : asc t) : Txt.lower (S t) = S (lo t) := SX.lower_S (all_asc h)
/-- the last sign, or none -/
def ahd (u : Tx) : Tx := u.drop (u.length - 1)
theorem ahd_len (u : Tx) : (ahd u).length ≤ 1 := by
  rw [ahd, List.length_drop]
  omega
theorem ahd_cases (u : Tx) : (u = [] ∧ ahd u = []) ∨ ∃ v x, u = v ++ [x] ∧ ahd u = [x] := by
  rcases List.eq_nil_or_concat u with rfl | ⟨v, x, rfl⟩
  · exact .inl ⟨rfl, rfl⟩
  · refine .inr ⟨v, x, List.concat_eq_append, ?_⟩
    rw [List.concat_eq_append, ahd, List.length_append, List.length_singleton, Nat.add_sub_cancel, List.drop_left]
def cA (u : Tx) (c f : Nat) : Bool := (c == 121) && consT (ahd u) && (f != 105)
def cE (u : Tx) (c f : Nat) : Bool := (c == 101) && !([[101], [111], [121]].contains (ahd u)) && vow f
def cZ (u : Tx) (c : Nat) (e : Tx) : Bool := (e == [115]) && ([[115], [120], [122]].contains [c] || [[99, 104], [115, 104]].contains (ahd u ++ [c]))
def cD (u : Tx) (c f : Nat) : Bool := shortR (u ++ [c]).reverse && vow f
def jo (u : Tx) (d f : Nat) (r : Tx) : Tx :=
  if cA (lo u) (PyProof.Rows.lo1 d) f then (if f :: r = [115] then u ++ [105, 101, 115] else u ++ 105 :: f :: r)
  else if cE (lo u) (PyProof.Rows.lo1 d) f then u ++ f :: r
  else if cZ (lo u) (PyProof.Rows.lo1 d) (f :: r) then u ++ [d] ++ [101, 115]
  else if cD (lo u) (PyProof.Rows.lo1 d) f then u ++ [d] ++ [PyProof.Rows.lo1 d] ++ f :: r
  else u ++ [d] ++ f :: r
def jPre (u : Tx) (d f : Nat) (r : Tx) : Prop := u.length ≤ 90000 ∧ r.length ≤ 90000 ∧ (∀ c ∈ u, letr c = true) ∧ letr d = true ∧ small f = true
theorem jPre.asc {u : Tx} {d f : Nat} {r : Tx} (h : jPre u d f r) : asc (u ++ [d]) := asc_app (fun c hc => letr_lt (h.2.2.1 c hc)) fun c hc => by
  rw [List.mem_singleton.mp hc]
  exact letr_lt h.2.2.2.1
theorem cut_m1 (u : Tx) (c : Nat) : cutS (S (u ++ [c])) (some (-1)) none = S [c] := by
  rw [cutS_S, cutL_last, List.length_append, List.length_singleton, Nat.add_sub_cancel, List.drop_left]
theorem cut_init (u : Tx) (c : Nat) : cutS (S (u ++ [c])) none (some (-1)) = S u := by
  rw [cutS_S, cutL_init, List.dropLast_concat]
theorem cut_m21 (u : Tx) (c : Nat) : cutS (S (u ++ [c])) (some (-2)) (some (-1)) = S (ahd u) := by
  rw [cutS_S]
  have e := cutL_negs (u ++ [c]) 2 1 (by decide) (by decide)
  rw [List.length_append, List.length_singleton, Nat.add_sub_cancel, List.take_left] at e
  exact congrArg S e
theorem cut_m2 (u : Tx) (c : Nat) : cutS (S (u ++ [c])) (some (-2)) none = S (ahd u ++ [c]) := by
  rw [cutS_S]
  have e := cutL_fromneg (u ++ [c]) 2 (by decide)
  rw [List.length_append, List.length_singleton, List.drop_append_of_le_length (by omega)] at e
  exact congrArg S e
theorem cut_to1 (f : Nat) (r : Tx) : cutS (S (f :: r)) none (some 1) = S [f] := by
  rw [cutS_S]
  exact congrArg S (cutL_to (f :: r) 1)
def sp_joined : Sp := fun vs H Q _ => ∃ u d f r, vs = [.str (S (u ++ [d])), .str (S (f :: r))] ∧ jPre u d f r ∧ ∀ H', Same H H' → Q (.str (S (jo u d f r))) H'
abbrev s_joined : Stmt := (top 5)
theorem sc_joined : FnScope ["word", "ending", "low", "first"] ["word", "ending"] (defScope s_joined) := ⟨rfl, rfl, rfl, by decide +kernel, rfl, by decide +kernel, by decide +kernel⟩

section
variable {P : Program} {w : World} {K : PySem.W.Frag} {mg : Str → Option Value} {base : Heap}
theorem ok_joined {f : Addr} {fd : FuncData} (F : FunS K "joined" s_joined f fd) (g_LETTERS_endings : ∃ u, mg "LETTERS_endings" = some u ∧ RelV (.str (S [97, 98, 99, 100, 101, 102, 103, 104, 105, 106, 107, 108, 109, 110, 111, 112, 113, 114, 115, 116, 117, 118, 119, 120, 121, 122])) u) (g_VOWELS : ∃ u, mg "VOWELS" = some u ∧ RelV (.str (S [97, 101, 105, 111, 117])) u) (c_is_consonant : Cal P w K mg base CX0 1 "is_consonant" sp_consonant) (c_is_short : Cal P w K mg base CX0 2 "is_short" sp_short) : FnOk P w K mg base CX0 3 f fd ["word", "ending"] sp_joined := by
  refine F.ok sc_joined (fun vs H Q E h => ?_) (fun cdv A outer s H vs Q E hr h => ?_)
  · obtain ⟨u, d, f, r, rfl, _⟩ := h
    rfl
  obtain ⟨u, d, f, r, rfl, jp, k⟩ := h
  refine ⟨_, PSs.nox (pss_cons (ps_set (i := 2) sc_joined.nd rfl (.inl rfl) (pe_lower (pv 0)))
  (pss_cons (ps_set (i := 3) sc_joined.nd rfl (.inl rfl) (pe_slice sl_str (pv 1) po_none (po_some pe_int)))
  (pss_cons (ps_if (PW.pt (pw_and (pt_cmpR op_eq (pe_slice sl_str (pv 2) (po_some (pe_un un_neg pe_int)) po_none) pe_str (nomark _)) (pw_and (pt_val (pe_c c_is_consonant hr (by first | decide | omega) (by rfl) (pa_cons (pe_slice sl_str (pv 2) (po_some (pe_un un_neg pe_int)) (po_some (pe_un un_neg pe_int))) pa_nil))) (pw_and (pt_cmpR op_in_sign (pv 3) (pe_gc (by rfl) g_LETTERS_endings) rfl) (pw_and1 (pt_cmpR op_ne (pv 3) pe_str (nomark _)))))))
    (pss_cons (ps_if (pt_cmpR op_eq (pv 1) pe_str (nomark _))
    (pss_one (ps_ret (pe_op op_add_str (pe_slice sl_str (pv 0) po_none (po_some (pe_un un_neg pe_int))) pe_str)))
    pss_nil)
  (pss_one (ps_ret (pe_op op_add_str (pe_op op_add_str (pe_slice sl_str (pv 0) po_none (po_some (pe_un un_neg pe_int))) pe_str) (pv 1)))))
    pss_nil)
  (pss_cons (ps_if (PW.pt (pw_and (pt_cmpR op_eq (pe_slice sl_str (pv 2) (po_some (pe_un un_neg pe_int)) po_none) pe_str (nomark _)) (pw_and (pt_cmpR op_notIn_seq (pe_slice sl_str (pv 2) (po_some (pe_un un_neg pe_int)) (po_some (pe_un un_neg pe_int))) (pe_tup (pa_cons pe_str (pa_cons pe_str (pa_cons pe_str pa_nil)))) (by rfl)) (pw_and1 (pt_cmpR op_in_sign (pv 3) (pe_gc (by rfl) g_VOWELS) rfl)))))
    (pss_one (ps_ret (pe_op op_add_str (pe_slice sl_str (pv 0) po_none (po_some (pe_un un_neg pe_int))) (pv 1))))
    pss_nil)
  (pss_cons (ps_if (PW.pt (pw_and (pt_cmpR op_eq (pv 1) pe_str (nomark _)) (pw_and1 (PW.pt (pw_or (pt_cmpR op_in_seq (pe_slice sl_str (pv 2) (po_some (pe_un un_neg pe_int)) po_none) (pe_tup (pa_cons pe_str (pa_cons pe_str (pa_cons pe_str pa_nil)))) (by rfl)) (pw_or1 (pt_cmpR op_in_seq (pe_slice sl_str (pv 2) (po_some (pe_un un_neg pe_int)) po_none) (pe_tup (pa_cons pe_str (pa_cons pe_str pa_nil))) (by rfl))))))))
    (pss_one (ps_ret (pe_op op_add_str (pv 0) pe_str)))
    pss_nil)
  (pss_cons (ps_if (PW.pt (pw_and (pt_val (pe_c c_is_short hr (by first | decide | omega) (by rfl) (pa_cons (pv 2) pa_nil))) (pw_and1 (pt_cmpR op_in_sign (pv 3) (pe_gc (by rfl) g_VOWELS) rfl))))
    (pss_one (ps_ret (pe_op op_add_str (pe_op op_add_str (pv 0) (pe_lower (pe_ix ix_str (pv 0) (pe_un un_neg pe_int) (fun _ _ => rfl)))) (pv 1))))
    pss_nil)
  (pss_one (ps_ret (pe_op op_add_str (pv 0) (pv 1)))))))))), ?_⟩
  have ew : Txt.lower (S (u ++ [d])) = S (lo u ++ [PyProof.Rows.lo1 d]) := by
    rw [lower_lo jp.asc, lo, List.map_append]
    rfl
  have as : asc (lo u ++ [PyProof.Rows.lo1 d]) := by
    have := asc_lo jp.asc
    rw [lo, List.map_append] at this
    exact this
  have ed : Txt.lower (S [d]) = S [PyProof.Rows.lo1 d] := lower_lo fun c hc => jp.asc c (List.mem_append_right _ hc)
  have pA := jp.1
  have pB := jp.2.1
  have z1 : (S (u ++ [d])).length ≤ sizeLine := size_le (by rw [S_len]; simp; omega)
  have z2 : (S (lo u ++ [PyProof.Rows.lo1 d])).length ≤ sizeLine := size_le (by rw [S_len]; simp; omega)
  have z3 : (S (f :: r)).length ≤ sizeLine := size_le (by rw [S_len]; simp; omega)
  have z4 : (lo u ++ [PyProof.Rows.lo1 d]).length ≤ 100000 := by simp; omega
  have l1 : atI (u ++ [d]) (-1) = some d := by
    have e := atI_neg (u ++ [d]) 1 (by decide) (by simp)
    simpa using e
  simp only [tSeq, tAsg, tAnd, tOr, tNot, tTest, tB, tOp, tUn, tCB, tCons, tNil, tVar, tC, gName, rI0, rI, rU, rEq, rNe, rIxS, rIxL, rIxT, tRet, tRetN, tTup, tLst, tSl, tPart, tNoPart, rSlS, tIf, tNext, tDrop, tCall, tBM, tBM0, tAndV, tOrV, tNotV, tM0, tM1, gSub, rSetL, sFld, gCons_eq, gNil_eq, tDGet, sDPut, tMeth, tMake, tFld, tChain, tIsN, tNotN,
  List.set_cons_zero, List.set_cons_succ, exists_eq_left', exists_eq_left, exists_eq, V.int.injEq, V.str.injEq, V.bl.injEq, V.ref.injEq, List.cons.injEq, and_true, true_and, List.getElem?_cons_zero, List.getElem?_cons_succ, Option.some.injEq, List.append_nil, exists_and_left, cxOf_K, false_and, and_false, exists_false, false_or, or_false, exists_eq', exists_const, sg_eq, S_eq, S_toList, S_ne, tFor_eq, tLc_eq, iList_eq, iTup_eq, iRng1_eq, iStr_eq, decide_eq_true_eq, Bool.not_eq_true', decide_eq_false_iff_not, if_true, if_false, Bool.false_eq_true, reduceCtorEq, Bool.true_eq_false, decide_true, decide_false, lit_121, lit_105, lit_115, lit_101, lit_101_115, lit_105_101_115, lit_111, lit_120, lit_122, lit_99_104, lit_115_104, start2_4, ew, cut_to1, cut_m1, cut_init, cut_m21, cut_m2]
  unfold jo at k
  refine ⟨Nat.le_trans (by rw [S_len]; simp; omega : (S (u ++ [d])).length ≤ 100000) (by decide), z3, ?_⟩
  refine if_pure (cA (lo u) (PyProof.Rows.lo1 d) f) (fun R q => ?_) (fun e => ?_) (fun e => ?_)
  · simp only [tSeq, tAsg, tAnd, tOr, tNot, tTest, tB, tOp, tUn, tCB, tCons, tNil, tVar, tC, gName, rI0, rI, rU, rEq, rNe, rIxS, rIxL, rIxT, tRet, tRetN, tTup, tLst, tSl, tPart, tNoPart, rSlS, tIf, tIfS, tNext, tDrop, tCall, tBM, tBM0, tAndV, tOrV, tNotV, tM0, tM1, gSub, rSetL, sFld, gCons_eq, gNil_eq, tDGet, sDPut, tMeth, tMake, tFld, tChain, tIsN, tNotN,
  List.set_cons_zero, List.set_cons_succ, exists_eq_left', exists_eq_left, exists_eq, V.int.injEq, V.str.injEq, V.bl.injEq, V.ref.injEq, List.cons.injEq, and_true, true_and, List.getElem?_cons_zero, List.getElem?_cons_succ, Option.some.injEq, List.append_nil, exists_and_left, cxOf_K, false_and, and_false, exists_false, false_or, or_false, exists_eq', exists_const, sg_eq, S_eq, S_toList, S_ne, tFor_eq, tLc_eq, iList_eq, iTup_eq, iRng1_eq, iStr_eq, decide_eq_true_eq, Bool.not_eq_true', decide_eq_false_iff_not, if_true, if_false, Bool.false_eq_true, reduceCtorEq, Bool.true_eq_false, decide_true, decide_false, cut_m1, cut_m21]
    refine ⟨z2, ?_⟩
    unfold cA at q
    refine ⟨rfl, ite2 (fun h1 => ⟨z2, ahd (lo u), rfl, ahd_len _, _, rfl, ?_⟩) (fun h1 => ?_)⟩
    · rw [h1] at q
      cases hc : consT (ahd (lo u)) with
      | false =>
        rw [hc] at q
        exact q
      | true =>
        rw [hc] at q
        simp only [if_true]
        rw [if_pos ((small_mem f).mpr jp.2.2.2.2)]
        refine ⟨rfl, ?_⟩
        have e : (!decide (f = 105)) = (f != 105) := by
          rw [Bool.eq_iff_iff]
          simp
        rw [e]
        exact q
    · rw [show (PyProof.Rows.lo1 d == 121) = false from beq_eq_false_iff_ne.mpr h1] at q
      exact q
  · rw [if_pos e] at k
    simp only [tSeq, tAsg, tAnd, tOr, tNot, tTest, tB, tOp, tUn, tCB, tCons, tNil, tVar, tC, gName, rI0, rI, rU, rEq, rNe, rIxS, rIxL, rIxT, tRet, tRetN, tTup, tLst, tSl, tPart, tNoPart, rSlS, tIf, tIfS, tNext, tDrop, tCall, tBM, tBM0, tAndV, tOrV, tNotV, tM0, tM1, gSub, rSetL, sFld, gCons_eq, gNil_eq, tDGet, sDPut, tMeth, tMake, tFld, tChain, tIsN, tNotN,
  List.set_cons_zero, List.set_cons_succ, exists_eq_left', exists_eq_left, exists_eq, V.int.injEq, V.str.injEq, V.bl.injEq, V.ref.injEq, List.cons.injEq, and_true, true_and, List.getElem?_cons_zero, List.getElem?_cons_succ, Option.some.injEq, List.append_nil, exists_and_left, cxOf_K, false_and, and_false, exists_false, false_or, or_false, exists_eq', exists_const, sg_eq, S_eq, S_toList, S_ne, tFor_eq, tLc_eq, iList_eq, iTup_eq, iRng1_eq, iStr_eq, decide_eq_true_eq, Bool.not_eq_true', decide_eq_false_iff_not, if_true, if_false, Bool.false_eq_true, reduceCtorEq, Bool.true_eq_false, decide_true, decide_false, cut_init, S_cat]
    refine ⟨rfl, ite2 (fun h => ?_) (fun h => ?_)⟩
    · rw [if_pos (by rw [h.1, h.2])] at k
      refine ⟨z1, (size_le (by (try simp only [S_len, List.length_append, List.length_cons, List.length_nil]); omega)), k _ (Same.refl _)⟩
    · rw [if_neg (fun z => by cases z; exact h ⟨rfl, rfl⟩)] at k
      refine ⟨z1, (size_le (by (try simp only [S_len, List.length_append, List.length_cons, List.length_nil]); omega)), (size_le (by (try simp only [S_len, List.length_append, List.length_cons, List.length_nil]); omega)), ?_⟩
      have q := k _ (Same.refl _)
      rw [List.append_assoc]
      exact q
  rw [if_neg (by rw [e]; decide)] at k
  simp only [tSeq, tAsg, tAnd, tOr, tNot, tTest, tB, tOp, tUn, tCB, tCons, tNil, tVar, tC, gName, rI0, rI, rU, rEq, rNe, rIxS, rIxL, rIxT, tRet, tRetN, tTup, tLst, tSl, tPart, tNoPart, rSlS, tIf, tNext, tDrop, tCall, tBM, tBM0, tAndV, tOrV, tNotV, tM0, tM1, gSub, rSetL, sFld, gCons_eq, gNil_eq, tDGet, sDPut, tMeth, tMake, tFld, tChain, tIsN, tNotN,
  List.set_cons_zero, List.set_cons_succ, exists_eq_left', exists_eq_left, exists_eq, V.int.injEq, V.str.injEq, V.bl.injEq, V.ref.injEq, List.cons.injEq, and_true, true_and, List.getElem?_cons_zero, List.getElem?_cons_succ, Option.some.injEq, List.append_nil, exists_and_left, cxOf_K, false_and, and_false, exists_false, false_or, or_false, exists_eq', exists_const, sg_eq, S_eq, S_toList, S_ne, tFor_eq, tLc_eq, iList_eq, iTup_eq, iRng1_eq, iStr_eq, decide_eq_true_eq, Bool.not_eq_true', decide_eq_false_iff_not, if_true, if_false, Bool.false_eq_true, reduceCtorEq, Bool.true_eq_false, decide_true, decide_false, cut_m1, cut_m21]
  refine if_new (cE (lo u) (PyProof.Rows.lo1 d) f) (fun R q => ?_) (fun e H1 s1 => ?_) (fun e H1 s1 => ?_)
  · simp only [tSeq, tAsg, tAnd, tOr, tNot, tTest, tB, tOp, tUn, tCB, tCons, tNil, tVar, tC, gName, rI0, rI, rU, rEq, rNe, rIxS, rIxL, rIxT, tRet, tRetN, tTup, tLst, tSl, tPart, tNoPart, rSlS, tIf, tIfS, tNext, tDrop, tCall, tBM, tBM0, tAndV, tOrV, tNotV, tM0, tM1, gSub, rSetL, sFld, gCons_eq, gNil_eq, tDGet, sDPut, tMeth, tMake, tFld, tChain, tIsN, tNotN,
  List.set_cons_zero, List.set_cons_succ, exists_eq_left', exists_eq_left, exists_eq, V.int.injEq, V.str.injEq, V.bl.injEq, V.ref.injEq, List.cons.injEq, and_true, true_and, List.getElem?_cons_zero, List.getElem?_cons_succ, Option.some.injEq, List.append_nil, exists_and_left, cxOf_K, false_and, and_false, exists_false, false_or, or_false, exists_eq', exists_const, sg_eq, S_eq, S_toList, S_ne, tFor_eq, tLc_eq, iList_eq, iTup_eq, iRng1_eq, iStr_eq, decide_eq_true_eq, Bool.not_eq_true', decide_eq_false_iff_not, if_true, if_false, Bool.false_eq_true, reduceCtorEq, Bool.true_eq_false, decide_true, decide_false, cut_m1, cut_m21]
    refine ⟨z2, ?_⟩
    unfold cE at q
    refine ⟨rfl, ite2 (fun h1 => ⟨z2, (size_le (by simp only [List.length_cons, List.length_nil]; decide)), fun p np => in_tup true (ahd (lo u)) [[101], [111], [121]] np fun H' s' => ⟨_, rfl, ?_⟩⟩) (fun h1 => ?_)⟩
    · rw [h1] at q
      have q := q H' s'
      have e : decide (f ∈ [97, 101, 105, 111, 117]) = vow f := by
        rw [Bool.eq_iff_iff, decide_eq_true_eq]
        exact vow_mem f
      rw [e]
      simp only [if_true]
      cases hc : [[101], [111], [121]].contains (ahd (lo u)) with
      | false =>
        rw [hc] at q
        simp only [Bool.not_false, if_true]
        exact q
      | true =>
        rw [hc] at q
        exact q
    · rw [show (PyProof.Rows.lo1 d == 101) = false from beq_eq_false_iff_ne.mpr h1] at q
      exact q _ (Same.refl _)
  · rw [if_pos e] at k
    simp only [tSeq, tAsg, tAnd, tOr, tNot, tTest, tB, tOp, tUn, tCB, tCons, tNil, tVar, tC, gName, rI0, rI, rU, rEq, rNe, rIxS, rIxL, rIxT, tRet, tRetN, tTup, tLst, tSl, tPart, tNoPart, rSlS, tIf, tIfS, tNext, tDrop, tCall, tBM, tBM0, tAndV, tOrV, tNotV, tM0, tM1, gSub, rSetL, sFld, gCons_eq, gNil_eq, tDGet, sDPut, tMeth, tMake, tFld, tChain, tIsN, tNotN,
  List.set_cons_zero, List.set_cons_succ, exists_eq_left', exists_eq_left, exists_eq, V.int.injEq, V.str.injEq, V.bl.injEq, V.ref.injEq, List.cons.injEq, and_true, true_and, List.getElem?_cons_zero, List.getElem?_cons_succ, Option.some.injEq, List.append_nil, exists_and_left, cxOf_K, false_and, and_false, exists_false, false_or, or_false, exists_eq', exists_const, sg_eq, S_eq, S_toList, S_ne, tFor_eq, tLc_eq, iList_eq, iTup_eq, iRng1_eq, iStr_eq, decide_eq_true_eq, Bool.not_eq_true', decide_eq_false_iff_not, if_true, if_false, Bool.false_eq_true, reduceCtorEq, Bool.true_eq_false, decide_true, decide_false, cut_init, S_cat]
    refine ⟨z1, (size_le (by (try simp only [S_len, List.length_append, List.length_cons, List.length_nil]); omega)), k _ s1⟩
  rw [if_neg (by rw [e]; decide)] at k
  simp only [tSeq, tAsg, tAnd, tOr, tNot, tTest, tB, tOp, tUn, tCB, tCons, tNil, tVar, tC, gName, rI0, rI, rU, rEq, rNe, rIxS, rIxL, rIxT, tRet, tRetN, tTup, tLst, tSl, tPart, tNoPart, rSlS, tIf, tNext, tDrop, tCall, tBM, tBM0, tAndV, tOrV, tNotV, tM0, tM1, gSub, rSetL, sFld, gCons_eq, gNil_eq, tDGet, sDPut, tMeth, tMake, tFld, tChain, tIsN, tNotN,
  List.set_cons_zero, List.set_cons_succ, exists_eq_left', exists_eq_left, exists_eq, V.int.injEq, V.str.injEq, V.bl.injEq, V.ref.injEq, List.cons.injEq, and_true, true_and, List.getElem?_cons_zero, List.getElem?_cons_succ, Option.some.injEq, List.append_nil, exists_and_left, cxOf_K, false_and, and_false, exists_false, false_or, or_false, exists_eq', exists_const, sg_eq, S_eq, S_toList, S_ne, tFor_eq, tLc_eq, iList_eq, iTup_eq, iRng1_eq, iStr_eq, decide_eq_true_eq, Bool.not_eq_true', decide_eq_false_iff_not, if_true, if_false, Bool.false_eq_true, reduceCtorEq, Bool.true_eq_false, decide_true, decide_false, cut_m1, cut_m21]
  refine if_new (cZ (lo u) (PyProof.Rows.lo1 d) (f :: r)) (fun R q => ?_) (fun e H2 s2 => ?_) (fun e H2 s2 => ?_)
  · simp only [tSeq, tAsg, tAnd, tOr, tNot, tTest, tB, tOp, tUn, tCB, tCons, tNil, tVar, tC, gName, rI0, rI, rU, rEq, rNe, rIxS, rIxL, rIxT, tRet, tRetN, tTup, tLst, tSl, tPart, tNoPart, rSlS, tIf, tIfS, tNext, tDrop, tCall, tBM, tBM0, tAndV, tOrV, tNotV, tM0, tM1, gSub, rSetL, sFld, gCons_eq, gNil_eq, tDGet, sDPut, tMeth, tMake, tFld, tChain, tIsN, tNotN,
  List.set_cons_zero, List.set_cons_succ, exists_eq_left', exists_eq_left, exists_eq, V.int.injEq, V.str.injEq, V.bl.injEq, V.ref.injEq, List.cons.injEq, and_true, true_and, List.getElem?_cons_zero, List.getElem?_cons_succ, Option.some.injEq, List.append_nil, exists_and_left, cxOf_K, false_and, and_false, exists_false, false_or, or_false, exists_eq', exists_const, sg_eq, S_eq, S_toList, S_ne, tFor_eq, tLc_eq, iList_eq, iTup_eq, iRng1_eq, iStr_eq, decide_eq_true_eq, Bool.not_eq_true', decide_eq_false_iff_not, if_true, if_false, Bool.false_eq_true, reduceCtorEq, Bool.true_eq_false, decide_true, decide_false, cut_m1, cut_m2]
    unfold cZ at q
    refine ⟨rfl, ite2 (fun h1 => ⟨z2, (size_le (by simp only [List.length_cons, List.length_nil]; decide)), fun p np => in_tup false [PyProof.Rows.lo1 d] [[115], [120], [122]] np fun H' s' => ⟨_, rfl, ?_⟩⟩) (fun h1 => ?_)⟩
    · rw [show (f :: r == [115]) = true from by rw [h1.1, h1.2]; rfl] at q
      cases hc : [[115], [120], [122]].contains [PyProof.Rows.lo1 d] with
      | true =>
        rw [hc] at q
        exact q _ s'
      | false =>
        rw [hc] at q
        simp only [Bool.false_eq_true, if_false]
        exact ⟨z2, (size_le (by simp only [List.length_cons, List.length_nil]; decide)), fun p np => in_tup false (ahd (lo u) ++ [PyProof.Rows.lo1 d]) [[99, 104], [115, 104]] np fun H3 s3 => ⟨_, rfl, q _ (s'.trans s3)⟩⟩
    · rw [show (f :: r == [115]) = false from beq_eq_false_iff_ne.mpr fun z => by cases z; exact h1 ⟨rfl, rfl⟩] at q
      exact q _ (Same.refl _)
  · rw [if_pos e] at k
    simp only [tSeq, tAsg, tAnd, tOr, tNot, tTest, tB, tOp, tUn, tCB, tCons, tNil, tVar, tC, gName, rI0, rI, rU, rEq, rNe, rIxS, rIxL, rIxT, tRet, tRetN, tTup, tLst, tSl, tPart, tNoPart, rSlS, tIf, tIfS, tNext, tDrop, tCall, tBM, tBM0, tAndV, tOrV, tNotV, tM0, tM1, gSub, rSetL, sFld, gCons_eq, gNil_eq, tDGet, sDPut, tMeth, tMake, tFld, tChain, tIsN, tNotN,
  List.set_cons_zero, List.set_cons_succ, exists_eq_left', exists_eq_left, exists_eq, V.int.injEq, V.str.injEq, V.bl.injEq, V.ref.injEq, List.cons.injEq, and_true, true_and, List.getElem?_cons_zero, List.getElem?_cons_succ, Option.some.injEq, List.append_nil, exists_and_left, cxOf_K, false_and, and_false, exists_false, false_or, or_false, exists_eq', exists_const, sg_eq, S_eq, S_toList, S_ne, tFor_eq, tLc_eq, iList_eq, iTup_eq, iRng1_eq, iStr_eq, decide_eq_true_eq, Bool.not_eq_true', decide_eq_false_iff_not, if_true, if_false, Bool.false_eq_true, reduceCtorEq, Bool.true_eq_false, decide_true, decide_false, cut_init, S_cat]
    refine ⟨(size_le (by (try simp only [S_len, List.length_append, List.length_cons, List.length_nil]); omega)), k _ (s1.trans s2)⟩
  rw [if_neg (by rw [e]; decide)] at k
  simp only [tSeq, tAsg, tAnd, tOr, tNot, tTest, tB, tOp, tUn, tCB, tCons, tNil, tVar, tC, gName, rI0, rI, rU, rEq, rNe, rIxS, rIxL, rIxT, tRet, tRetN, tTup, tLst, tSl, tPart, tNoPart, rSlS, tIf, tNext, tDrop, tCall, tBM, tBM0, tAndV, tOrV, tNotV, tM0, tM1, gSub, rSetL, sFld, gCons_eq, gNil_eq, tDGet, sDPut, tMeth, tMake, tFld, tChain, tIsN, tNotN,
  List.set_cons_zero, List.set_cons_succ, exists_eq_left', exists_eq_left, exists_eq, V.int.injEq, V.str.injEq, V.bl.injEq, V.ref.injEq, List.cons.injEq, and_true, true_and, List.getElem?_cons_zero, List.getElem?_cons_succ, Option.some.injEq, List.append_nil, exists_and_left, cxOf_K, false_and, and_false, exists_false, false_or, or_false, exists_eq', exists_const, sg_eq, S_eq, S_toList, S_ne, tFor_eq, tLc_eq, iList_eq, iTup_eq, iRng1_eq, iStr_eq, decide_eq_true_eq, Bool.not_eq_true', decide_eq_false_iff_not, if_true, if_false, Bool.false_eq_true, reduceCtorEq, Bool.true_eq_false, decide_true, decide_false, cut_m1, cut_m21]
  refine if_new (cD (lo u) (PyProof.Rows.lo1 d) f) (fun R q => ?_) (fun e H3 s3 => ?_) (fun e H3 s3 => ?_)
  · simp only [tSeq, tAsg, tAnd, tOr, tNot, tTest, tB, tOp, tUn, tCB, tCons, tNil, tVar, tC, gName, rI0, rI, rU, rEq, rNe, rIxS, rIxL, rIxT, tRet, tRetN, tTup, tLst, tSl, tPart, tNoPart, rSlS, tIf, tIfS, tNext, tDrop, tCall, tBM, tBM0, tAndV, tOrV, tNotV, tM0, tM1, gSub, rSetL, sFld, gCons_eq, gNil_eq, tDGet, sDPut, tMeth, tMake, tFld, tChain, tIsN, tNotN,
  List.set_cons_zero, List.set_cons_succ, exists_eq_left', exists_eq_left, exists_eq, V.int.injEq, V.str.injEq, V.bl.injEq, V.ref.injEq, List.cons.injEq, and_true, true_and, List.getElem?_cons_zero, List.getElem?_cons_succ, Option.some.injEq, List.append_nil, exists_and_left, cxOf_K, false_and, and_false, exists_false, false_or, or_false, exists_eq', exists_const, sg_eq, S_eq, S_toList, S_ne, tFor_eq, tLc_eq, iList_eq, iTup_eq, iRng1_eq, iStr_eq, decide_eq_true_eq, Bool.not_eq_true', decide_eq_false_iff_not, if_true, if_false, Bool.false_eq_true, reduceCtorEq, Bool.true_eq_false, decide_true, decide_false, cut_m1, cut_m2]
    unfold cD at q
    refine ⟨_, rfl, z4, as, fun H' s' => ⟨_, rfl, ?_⟩⟩
    have q := q H' s'
    have e : decide (f ∈ [97, 101, 105, 111, 117]) = vow f := by
      rw [Bool.eq_iff_iff, decide_eq_true_eq]
      exact vow_mem f
    rw [e]
    cases hc : shortR (lo u ++ [PyProof.Rows.lo1 d]).reverse with
    | false =>
      rw [hc] at q
      exact q
    | true =>
      rw [hc] at q
      exact q
  · rw [if_pos e] at k
    simp only [tSeq, tAsg, tAnd, tOr, tNot, tTest, tB, tOp, tUn, tCB, tCons, tNil, tVar, tC, gName, rI0, rI, rU, rEq, rNe, rIxS, rIxL, rIxT, tRet, tRetN, tTup, tLst, tSl, tPart, tNoPart, rSlS, tIf, tIfS, tNext, tDrop, tCall, tBM, tBM0, tAndV, tOrV, tNotV, tM0, tM1, gSub, rSetL, sFld, gCons_eq, gNil_eq, tDGet, sDPut, tMeth, tMake, tFld, tChain, tIsN, tNotN,
  List.set_cons_zero, List.set_cons_succ, exists_eq_left', exists_eq_left, exists_eq, V.int.injEq, V.str.injEq, V.bl.injEq, V.ref.injEq, List.cons.injEq, and_true, true_and, List.getElem?_cons_zero, List.getElem?_cons_succ, Option.some.injEq, List.append_nil, exists_and_left, cxOf_K, false_and, and_false, exists_false, false_or, or_false, exists_eq', exists_const, sg_eq, S_eq, S_toList, S_ne, tFor_eq, tLc_eq, iList_eq, iTup_eq, iRng1_eq, iStr_eq, decide_eq_true_eq, Bool.not_eq_true', decide_eq_false_iff_not, if_true, if_false, Bool.false_eq_true, reduceCtorEq, Bool.true_eq_false, decide_true, decide_false, l1, ed, S_cat]
    exact ⟨z1, Nat.le_trans (by rw [S_len]; simp : (S [d]).length ≤ 1) (by decide), (size_le (by (try simp only [S_len, List.length_append, List.length_cons, List.length_nil]); omega)), (size_le (by (try simp only [S_len, List.length_append, List.length_cons, List.length_nil]); omega)), k _ ((s1.trans s2).trans s3)⟩
  rw [if_neg (by rw [e]; decide)] at k
  simp only [tSeq, tAsg, tAnd, tOr, tNot, tTest, tB, tOp, tUn, tCB, tCons, tNil, tVar, tC, gName, rI0, rI, rU, rEq, rNe, rIxS, rIxL, rIxT, tRet, tRetN, tTup, tLst, tSl, tPart, tNoPart, rSlS, tIf, tIfS, tNext, tDrop, tCall, tBM, tBM0, tAndV, tOrV, tNotV, tM0, tM1, gSub, rSetL, sFld, gCons_eq, gNil_eq, tDGet, sDPut, tMeth, tMake, tFld, tChain, tIsN, tNotN,
  List.set_cons_zero, List.set_cons_succ, exists_eq_left', exists_eq_left, exists_eq, V.int.injEq, V.str.injEq, V.bl.injEq, V.ref.injEq, List.cons.injEq, and_true, true_and, List.getElem?_cons_zero, List.getElem?_cons_succ, Option.some.injEq, List.append_nil, exists_and_left, cxOf_K, false_and, and_false, exists_false, false_or, or_false, exists_eq', exists_const, sg_eq, S_eq, S_toList, S_ne, tFor_eq, tLc_eq, iList_eq, iTup_eq, iRng1_eq, iStr_eq, decide_eq_true_eq, Bool.not_eq_true', decide_eq_false_iff_not, if_true, if_false, Bool.false_eq_true, reduceCtorEq, Bool.true_eq_false, decide_true, decide_false, S_cat]
  exact ⟨(size_le (by (try simp only [S_len, List.length_append, List.length_cons, List.length_nil]); omega)), k _ ((s1.trans s2).trans s3)⟩
end
/-! ### the law's joining -/
def sp_small : Sp := fun vs H Q _ => ∃ c : Nat, vs = [.str (S [c])] ∧ Q (.bl (small c)) H
abbrev s_l_small : Stmt := (top 20)
theorem sc_l_small : FnScope ["_law_sign"] ["_law_sign"] (defScope s_l_small) := ⟨rfl, rfl, rfl, by decide +kernel, rfl, by decide +kernel, by decide +kernel⟩

section
variable {P : Program} {w : World} {K : PySem.W.Frag} {mg : Str → Option Value} {base : Heap}
theorem ok_small {f : Addr} {fd : FuncData} (F : FunS K "_law_small" s_l_small f fd)  : FnOk P w K mg base CX0 1 f fd ["_law_sign"] sp_small := by
  refine F.ok sc_l_small (fun vs H Q E h => ?_) (fun cdv A outer s H vs Q E hr h => ?_)
  · obtain ⟨c, rfl, _⟩ := h
    rfl
  obtain ⟨c, rfl, k⟩ := h
  refine ⟨_, PSs.nox (pss_one (ps_ret (pe_and (pe_cmpR op_le_str pe_str (pv 0) (nomark _)) (pe_one (pe_cmpR op_le_str (pv 0) pe_str (nomark _)))))), ?_⟩
  simp only [tSeq, tAsg, tAnd, tOr, tNot, tTest, tB, tOp, tUn, tCB, tCons, tNil, tVar, tC, gName, rI0, rI, rU, rEq, rNe, rIxS, rIxL, rIxT, tRet, tRetN, tTup, tLst, tSl, tPart, tNoPart, rSlS, tIf, tIfS, tNext, tDrop, tCall, tBM, tBM0, tAndV, tOrV, tNotV, tM0, tM1, gSub, rSetL, sFld, gCons_eq, gNil_eq, tDGet, sDPut, tMeth, tMake, tFld, tChain, tIsN, tNotN,
  List.set_cons_zero, List.set_cons_succ, exists_eq_left', exists_eq_left, exists_eq, V.int.injEq, V.str.injEq, V.bl.injEq, V.ref.injEq, List.cons.injEq, and_true, true_and, List.getElem?_cons_zero, List.getElem?_cons_succ, Option.some.injEq, List.append_nil, exists_and_left, cxOf_K, false_and, and_false, exists_false, false_or, or_false, exists_eq', exists_const, sg_eq, S_eq, S_toList, S_ne, tFor_eq, tLc_eq, iList_eq, iTup_eq, iRng1_eq, iStr_eq, decide_eq_true_eq, Bool.not_eq_true', decide_eq_false_iff_not, if_true, if_false, Bool.false_eq_true, reduceCtorEq, Bool.true_eq_false, decide_true, decide_false, lit_97, lit_122, start1_1]
  have e1 : ([c] < [97]) ↔ c < 97 := by simp [List.cons_lt_cons_iff]
  have e2 : ([122] < [c]) ↔ 122 < c := by simp [List.cons_lt_cons_iff]
  simp only [e1, e2]
  refine ite2 (fun h => ?_) (fun h => ?_)
  · have e : small c = !decide (122 < c) := by
      rw [small, Bool.eq_iff_iff]
      simp
      omega
    rw [e] at k
    exact k
  · have e : small c = false := by
      rw [small, Bool.and_eq_false_iff, decide_eq_false_iff_not, decide_eq_false_iff_not]
      omega
    rw [e] at k
    exact k
theorem eqv_int1 : ∀ (a : List Int) (n : Int), PyData.eqv (.list (a.map .int)) (.list [.int n]) = decide (a = [n])
  | [], n => by simp [PyData.eqv, PyData.eqvAll]
  | [x], n => by
    simp only [List.map_cons, List.map_nil, PyData.eqv, PyData.eqvAll, Bool.and_true]
    rw [Bool.eq_iff_iff]
    simp
  | x :: y :: r, n => by simp [PyData.eqv, PyData.eqvAll]
def heard (t : Tx) (i : Nat) : List Nat := (List.range i).filter fun k => vow (t[k]?.getD 0)
theorem heard_succ (t : Tx) (i : Nat) (h : i < t.length) : heard t (i + 1) = if vow t[i] then heard t i ++ [i] else heard t i := by
  rw [heard, List.range_succ, List.filter_append]
  have e : t[i]?.getD 0 = t[i] := by simp [h]
  by_cases hv : vow t[i] = true
  · rw [if_pos hv]
    simp [heard, e, hv]
  · rw [if_neg hv]
    simp [heard, e, hv]
theorem heard_short (t : Tx) (hs : ∀ c ∈ t, small c = true) : (decide (2 < t.length) && decide (heard t t.length = [t.length - 2]) && !([[119], [120], [121]].contains (t.drop (t.length - 1)))) = shortR t.reverse := by
  rcases revs t with rfl | ⟨c, rfl⟩ | ⟨c, b, rfl⟩ | ⟨r, a, b, c, rfl⟩
  · rfl
  · rfl
  · rfl
  have hl : (r ++ [a, b, c]).length = r.length + 3 := by simp
  have hd : (r ++ [a, b, c]).drop ((r ++ [a, b, c]).length - 1) = [c] := by
    have e6 : r ++ [a, b, c] = (r ++ [a, b]) ++ [c] := by simp
    rw [e6, List.length_append, List.length_singleton, Nat.add_sub_cancel, List.drop_left]
  rw [hd, hl]
  have sa : small a = true := hs a (by simp)
  have sc : small c = true := hs c (by simp)
  have e1 : (List.filter (fun k => vow ((r ++ [a, b, c])[k]?.getD 0)) (List.range r.length)) = [] ↔ r.any vow = false := by
    rw [List.filter_eq_nil_iff, List.any_eq_false]
    constructor
    · intro h x hx
      obtain ⟨i, hi, rfl⟩ := List.mem_iff_getElem.mp hx
      have := h i (List.mem_range.mpr hi)
      simpa [List.getElem?_append_left hi, hi] using this
    · intro h i hi
      have hi := List.mem_range.mp hi
      have := h r[i] (List.getElem_mem hi)
      simpa [List.getElem?_append_left hi, hi] using this
  have e2 : heard (r ++ [a, b, c]) (r.length + 3) = List.filter (fun k => vow ((r ++ [a, b, c])[k]?.getD 0)) (List.range r.length) ++ ((if vow a then [r.length] else []) ++ ((if vow b then [r.length + 1] else []) ++ (if vow c then [r.length + 2] else []))) := by
    rw [heard, show r.length + 3 = r.length + 1 + 1 + 1 from rfl, List.range_succ, List.range_succ, List.range_succ, List.filter_append, List.filter_append, List.filter_append, List.append_assoc, List.append_assoc]
    congr 1
    have g0 : (r ++ [a, b, c])[r.length]?.getD 0 = a := by simp
    have g1 : (r ++ [a, b, c])[r.length + 1]?.getD 0 = b := by simp
    have g2 : (r ++ [a, b, c])[r.length + 1 + 1]?.getD 0 = c := by
      rw [List.getElem?_append_right (by omega), show r.length + 1 + 1 - r.length = 2 from by omega]
      rfl
    simp only [List.filter_cons, List.filter_nil, g0, g1, g2]
  have e3 : shortR (r ++ [a, b, c]).reverse = (!([119, 120, 121].contains c) && !vow c && vow b && !vow a && !(r.any vow)) := by
    simp only [List.reverse_append, List.reverse_cons, List.reverse_nil, List.nil_append, List.cons_append, shortR, List.any_reverse, cons, sa, sc, Bool.true_and]
  have e4 : [[119], [120], [121]].contains [c] = [119, 120, 121].contains c := by
    simp [List.contains_cons]
  rw [e2, e3, e4]
  generalize hX : List.filter (fun k => vow ((r ++ [a, b, c])[k]?.getD 0)) (List.range r.length) = X at e1
  have hX2 : ∀ x ∈ X, x < r.length := fun x hx => by
    rw [← hX] at hx
    exact List.mem_range.mp (List.mem_filter.mp hx).1
  generalize [119, 120, 121].contains c = q
  have h3 : decide (2 < r.length + 3) = true := decide_eq_true (by omega)
  rw [h3, show r.length + 3 - 2 = r.length + 1 from by omega]
  cases hr : r.any vow with
  | false =>
    rw [e1.mpr hr]
    cases vow a <;> cases vow b <;> cases vow c <;> cases q <;> simp
  | true =>
    have hne : X ≠ [] := fun h => by rw [e1.mp h] at hr; cases hr
    obtain ⟨x, X', rfl⟩ := List.exists_cons_of_ne_nil hne
    have hx := hX2 x List.mem_cons_self
    have hn : ∀ Y : List Nat, x :: X' ++ Y ≠ [r.length + 1] := fun Y z => by
      have := (List.cons.inj z).1
      omega
    simp [hn]
    intro z
    omega
def sp_ljoined : Sp := fun vs H Q _ => ∃ u d f r, vs = [.str (S (u ++ [d])), .str (S (f :: r))] ∧ jPre u d f r ∧ ∀ H', Same H H' → Q (.str (S (jo u d f r))) H'
abbrev s_l_joined : Stmt := (top 21)
theorem sc_l_joined : FnScope ["_law_word_here", "_law_ending_here", "_law_low", "_law_vowels", "_law_last", "_law_ahead", "_law_begins", "_law_heard", "_law_k"] ["_law_word_here", "_law_ending_here"] (defScope s_l_joined) := ⟨rfl, rfl, rfl, by decide +kernel, rfl, by decide +kernel, by decide +kernel⟩

theorem atI_at {α : Type} (u : List α) (d : α) (r : List α) : atI (u ++ d :: r) (u.length : Int) = some d := atI_nat (by simp)
theorem cut_ah (u : Tx) (c : Nat) : cutS (S (u ++ [c])) (some (((S (u ++ [c])).length : Int) - 2)) (some (u.length : Int)) = S (ahd u) := by
  rw [S_len, cutS_S]
  rcases ahd_cases u with ⟨h, h2⟩ | ⟨v, x, h, h2⟩
  · rw [h2]
    subst h
    rfl
  · rw [h2]
    subst h
    have e : ((v ++ [x] ++ [c]).length : Int) - 2 = (v.length : Int) := by
      simp only [List.length_append, List.length_cons, List.length_nil]
      omega
    rw [e, cutL_mid, List.take_left, List.drop_left]
theorem ok_ljoined {f : Addr} {fd : FuncData} (F : FunS K "_law_joined" s_l_joined f fd) (b_int : mg "int" = none) (b_len : mg "len" = none) (b_range : mg "range" = none) (c_l_small : Cal P w K mg base CX0 1 "_law_small" sp_small) : FnOk P w K mg base CX0 2 f fd ["_law_word_here", "_law_ending_here"] sp_ljoined := by
  refine F.ok sc_l_joined (fun vs H Q E h => ?_) (fun cdv A outer s H vs Q E hr h => ?_)
  · obtain ⟨u, d, f, r, rfl, _⟩ := h
    rfl
  obtain ⟨u, d, f, r, rfl, jp, k⟩ := h
  refine ⟨_, PSs.nox (pss_cons (ps_set (i := 2) sc_l_joined.nd rfl (.inr rfl) (pe_lower (pv 0)))
  (pss_cons (ps_set (i := 3) sc_l_joined.nd rfl (.inr rfl) (pe_lst (pa_cons pe_str (pa_cons pe_str (pa_cons pe_str (pa_cons pe_str (pa_cons pe_str pa_nil)))))))
  (pss_cons (ps_set (i := 4) sc_l_joined.nd rfl (.inl rfl) (pe_ix ix_str (pv 2) (pe_op op_sub (pe_callB call_len_str (by rfl) b_len PySem.boot_len (pa_cons (pv 2) pa_nil)) pe_int) (fun _ _ => rfl)))
  (pss_cons (ps_set (i := 5) sc_l_joined.nd rfl (.inl rfl) (pe_slice sl_str (pv 2) (po_some (pe_op op_sub (pe_callB call_len_str (by rfl) b_len PySem.boot_len (pa_cons (pv 2) pa_nil)) pe_int)) (po_some (pe_op op_sub (pe_callB call_len_str (by rfl) b_len PySem.boot_len (pa_cons (pv 2) pa_nil)) pe_int))))
  (pss_cons (ps_set (i := 6) sc_l_joined.nd rfl (.inl rfl) (pe_cmpR op_in_seq (pe_ix ix_str (pv 1) pe_int (fun _ _ => rfl)) (pv 3) (by rfl)))
  (pss_cons (ps_if (PW.pt (pw_and (pt_cmpR op_eq (pv 4) pe_str (nomark _)) (pw_and (pt_cmpR op_ne (pv 5) pe_str (nomark _)) (pw_and (pt_cmpR op_notIn_seq (pv 5) (pv 3) (by rfl)) (pw_and (pt_val (pe_c c_l_small hr (by first | decide | omega) (by rfl) (pa_cons (pe_ix ix_str (pv 1) pe_int (fun _ _ => rfl)) pa_nil))) (pw_and1 (pt_cmpR op_ne (pe_ix ix_str (pv 1) pe_int (fun _ _ => rfl)) pe_str (nomark _))))))))
    (pss_one (ps_ret (pe_op op_add_str (pe_slice sl_str (pv 0) po_none (po_some (pe_op op_sub (pe_callB call_len_str (by rfl) b_len PySem.boot_len (pa_cons (pv 0) pa_nil)) pe_int))) (pe_ix ix_list (pe_lst (pa_cons (pe_op op_add_str pe_str (pv 1)) (pa_cons pe_str pa_nil))) (pe_callTy call_int1 (by rfl) b_int (by decide +kernel) (pa_cons (pe_cmpR op_eq (pv 1) pe_str (nomark _)) pa_nil)) (fun _ _ => rfl)))))
    pss_nil)
  (pss_cons (ps_if (PW.pt (pw_and (pt_cmpR op_eq (pv 4) pe_str (nomark _)) (pw_and (pt_cmpR op_notIn_seq (pv 5) (pe_tup (pa_cons pe_str (pa_cons pe_str (pa_cons pe_str pa_nil)))) (by rfl)) (pw_and1 (pt_val (pv 6))))))
    (pss_one (ps_ret (pe_op op_add_str (pe_slice sl_str (pv 0) po_none (po_some (pe_op op_sub (pe_callB call_len_str (by rfl) b_len PySem.boot_len (pa_cons (pv 0) pa_nil)) pe_int))) (pv 1))))
    pss_nil)
  (pss_cons (ps_if (PW.pt (pw_and (pt_cmpR op_eq (pv 1) pe_str (nomark _)) (pw_and1 (PW.pt (pw_or (pt_cmpR op_in_seq (pv 4) (pe_tup (pa_cons pe_str (pa_cons pe_str (pa_cons pe_str pa_nil)))) (by rfl)) (pw_or1 (pt_cmpR op_in_seq (pe_op op_add_str (pv 5) (pv 4)) (pe_tup (pa_cons pe_str (pa_cons pe_str pa_nil))) (by rfl))))))))
    (pss_one (ps_ret (pe_op op_add_str (pv 0) pe_str)))
    pss_nil)
  (pss_cons (ps_setLc (i := 7) (own := [("_law_k", 8)]) rfl sc_l_joined.nd rfl rfl (sw_true rfl rfl rfl (by decide +kernel)) (pi_range1 (by rfl) b_range (pa_cons (pe_callB call_len_str (by rfl) b_len PySem.boot_len (pa_cons (pv 2) pa_nil)) pa_nil)) (blkOk_by (N := ["_law_word_here", "_law_ending_here", "_law_low", "_law_vowels", "_law_last", "_law_ahead", "_law_begins", "_law_heard", "_law_k"]) (sc := defScope s_l_joined) (own := [("_law_k", 8)]) (by decide +kernel)) (fun _ _ _ _ _ => (pg_name (i := 8) sc_l_joined.nd rfl (.inl rfl))) (fun _ _ _ _ _ => (pts_one (pt_cmpR (inK (K := K) op_in_seq rfl) (pe_ix ix_str (pv 2) (pv 8) (fun _ _ => rfl)) (pv 3) (by rfl)))) (fun _ _ _ _ _ => (pv 8)))
  (pss_cons (ps_if (PW.pt (pw_and (pt_val (pv 6)) (pw_and (pt_cmpR op_gt (pe_callB call_len_str (by rfl) b_len PySem.boot_len (pa_cons (pv 2) pa_nil)) pe_int (nomark _)) (pw_and (pt_cmpR (op_eqD hr.units) (pv 7) (pe_lst (pa_cons (pe_op op_sub (pe_callB call_len_str (by rfl) b_len PySem.boot_len (pa_cons (pv 2) pa_nil)) pe_int) pa_nil)) (nomark _)) (pw_and1 (pt_cmpR op_notIn_seq (pv 4) (pe_tup (pa_cons pe_str (pa_cons pe_str (pa_cons pe_str pa_nil)))) (by rfl)))))))
    (pss_one (ps_ret (pe_op op_add_str (pe_op op_add_str (pv 0) (pv 4)) (pv 1))))
    pss_nil)
  (pss_one (ps_ret (pe_op op_add_str (pv 0) (pv 1)))))))))))))), ?_⟩
  have ew : Txt.lower (S (u ++ [d])) = S (lo u ++ [PyProof.Rows.lo1 d]) := by
    rw [lower_lo jp.asc, lo, List.map_append]
    rfl
  have as : asc (lo u ++ [PyProof.Rows.lo1 d]) := by
    have := asc_lo jp.asc
    rw [lo, List.map_append] at this
    exact this
  have sm : ∀ c ∈ lo u ++ [PyProof.Rows.lo1 d], small c = true := fun c hc => by
    rcases List.mem_append.mp hc with h | h
    · obtain ⟨x, hx, rfl⟩ := List.mem_map.mp h
      exact jp.2.2.1 x hx
    · rw [List.mem_singleton.mp h]
      exact jp.2.2.2.1
  have ed : Txt.lower (S [d]) = S [PyProof.Rows.lo1 d] := lower_lo fun c hc => jp.asc c (List.mem_append_right _ hc)
  have pA := jp.1
  have pB := jp.2.1
  have z1 : (S (u ++ [d])).length ≤ sizeLine := size_le (by rw [S_len]; simp; omega)
  have z2 : (S (lo u ++ [PyProof.Rows.lo1 d])).length ≤ sizeLine := size_le (by rw [S_len]; simp; omega)
  have z3 : (S (f :: r)).length ≤ sizeLine := size_le (by rw [S_len]; simp; omega)
  have z4 : (lo u ++ [PyProof.Rows.lo1 d]).length ≤ 100000 := by simp; omega
  unfold jo at k
  simp only [tSeq, tAsg, tAnd, tOr, tNot, tTest, tB, tOp, tUn, tCB, tCons, tNil, tVar, tC, gName, rI0, rI, rU, rEq, rNe, rIxS, rIxL, rIxT, tRet, tRetN, tTup, tLst, tSl, tPart, tNoPart, rSlS, tIf, tNext, tDrop, tCall, tBM, tBM0, tAndV, tOrV, tNotV, tM0, tM1, gSub, rSetL, sFld, gCons_eq, gNil_eq, tDGet, sDPut, tMeth, tMake, tFld, tChain, tIsN, tNotN,
  List.set_cons_zero, List.set_cons_succ, exists_eq_left', exists_eq_left, exists_eq, V.int.injEq, V.str.injEq, V.bl.injEq, V.ref.injEq, List.cons.injEq, and_true, true_and, List.getElem?_cons_zero, List.getElem?_cons_succ, Option.some.injEq, List.append_nil, exists_and_left, cxOf_K, false_and, and_false, exists_false, false_or, or_false, exists_eq', exists_const, sg_eq, S_eq, S_toList, S_ne, tFor_eq, tLc_eq, iList_eq, iTup_eq, iRng1_eq, iStr_eq, decide_eq_true_eq, Bool.not_eq_true', decide_eq_false_iff_not, if_true, if_false, Bool.false_eq_true, reduceCtorEq, Bool.true_eq_false, decide_true, decide_false, lit_97, lit_101, lit_105, lit_111, lit_117, lit_121, lit_, lit_115, lit_101_115, lit_119, lit_120, lit_105_101_115, lit_122, lit_99_104, lit_115_104, start2_9, ew]
  refine ⟨Nat.le_trans (by rw [S_len]; simp; omega : (S (u ++ [d])).length ≤ 100000) (by decide), (size_le (by simp only [List.length_cons, List.length_nil]; decide)), ?_⟩
  (intro p np; generalize hqp : upd H p _ = H1; obtain ⟨e1, f1⟩ := al_ np hqp; clear hqp)
  have n1 : ((S (lo u ++ [PyProof.Rows.lo1 d])).length : Int) - 1 = ((lo u).length : Int) := by
    rw [S_len]
    simp
  have a1 : atI (lo u ++ [PyProof.Rows.lo1 d]) ((lo u).length : Int) = some (PyProof.Rows.lo1 d) := atI_at _ _ _
  simp only [n1, tSeq, tAsg, tAnd, tOr, tNot, tTest, tB, tOp, tUn, tCB, tCons, tNil, tVar, tC, gName, rI0, rI, rU, rEq, rNe, rIxS, rIxL, rIxT, tRet, tRetN, tTup, tLst, tSl, tPart, tNoPart, rSlS, tIf, tNext, tDrop, tCall, tBM, tBM0, tAndV, tOrV, tNotV, tM0, tM1, gSub, rSetL, sFld, gCons_eq, gNil_eq, tDGet, sDPut, tMeth, tMake, tFld, tChain, tIsN, tNotN,
  List.set_cons_zero, List.set_cons_succ, exists_eq_left', exists_eq_left, exists_eq, V.int.injEq, V.str.injEq, V.bl.injEq, V.ref.injEq, List.cons.injEq, and_true, true_and, List.getElem?_cons_zero, List.getElem?_cons_succ, Option.some.injEq, List.append_nil, exists_and_left, cxOf_K, false_and, and_false, exists_false, false_or, or_false, exists_eq', exists_const, sg_eq, S_eq, S_toList, S_ne, tFor_eq, tLc_eq, iList_eq, iTup_eq, iRng1_eq, iStr_eq, decide_eq_true_eq, Bool.not_eq_true', decide_eq_false_iff_not, if_true, if_false, Bool.false_eq_true, reduceCtorEq, Bool.true_eq_false, decide_true, decide_false, a1]
  have c1 : cutS (S (lo u ++ [PyProof.Rows.lo1 d])) (some (((S (lo u ++ [PyProof.Rows.lo1 d])).length : Int) - 2)) (some ((lo u).length : Int)) = S (ahd (lo u)) := cut_ah _ _
  have at0' : atI (f :: r) 0 = some f := atI_nat (j := 0) rfl
  simp only [c1, at0', tSeq, tAsg, tAnd, tOr, tNot, tTest, tB, tOp, tUn, tCB, tCons, tNil, tVar, tC, gName, rI0, rI, rU, rEq, rNe, rIxS, rIxL, rIxT, tRet, tRetN, tTup, tLst, tSl, tPart, tNoPart, rSlS, tIf, tNext, tDrop, tCall, tBM, tBM0, tAndV, tOrV, tNotV, tM0, tM1, gSub, rSetL, sFld, gCons_eq, gNil_eq, tDGet, sDPut, tMeth, tMake, tFld, tChain, tIsN, tNotN,
  List.set_cons_zero, List.set_cons_succ, exists_eq_left', exists_eq_left, exists_eq, V.int.injEq, V.str.injEq, V.bl.injEq, V.ref.injEq, List.cons.injEq, and_true, true_and, List.getElem?_cons_zero, List.getElem?_cons_succ, Option.some.injEq, List.append_nil, exists_and_left, cxOf_K, false_and, and_false, exists_false, false_or, or_false, exists_eq', exists_const, sg_eq, S_eq, S_toList, S_ne, tFor_eq, tLc_eq, iList_eq, iTup_eq, iRng1_eq, iStr_eq, decide_eq_true_eq, Bool.not_eq_true', decide_eq_false_iff_not, if_true, if_false, Bool.false_eq_true, reduceCtorEq, Bool.true_eq_false, decide_true, decide_false]
  refine ⟨z2, z2, z2, z2, z2, z3, ?_⟩
  have ev : ∀ c, [[97], [101], [105], [111], [117]].contains [c] = vow c := fun c => by
    simp [vow, List.contains_cons]
  refine in_lst' false [f] [[97], [101], [105], [111], [117]] f1 ?_
  rw [ev]
  simp only [tSeq, tAsg, tAnd, tOr, tNot, tTest, tB, tOp, tUn, tCB, tCons, tNil, tVar, tC, gName, rI0, rI, rU, rEq, rNe, rIxS, rIxL, rIxT, tRet, tRetN, tTup, tLst, tSl, tPart, tNoPart, rSlS, tIf, tNext, tDrop, tCall, tBM, tBM0, tAndV, tOrV, tNotV, tM0, tM1, gSub, rSetL, sFld, gCons_eq, gNil_eq, tDGet, sDPut, tMeth, tMake, tFld, tChain, tIsN, tNotN,
  List.set_cons_zero, List.set_cons_succ, exists_eq_left', exists_eq_left, exists_eq, V.int.injEq, V.str.injEq, V.bl.injEq, V.ref.injEq, List.cons.injEq, and_true, true_and, List.getElem?_cons_zero, List.getElem?_cons_succ, Option.some.injEq, List.append_nil, exists_and_left, cxOf_K, false_and, and_false, exists_false, false_or, or_false, exists_eq', exists_const, sg_eq, S_eq, S_toList, S_ne, tFor_eq, tLc_eq, iList_eq, iTup_eq, iRng1_eq, iStr_eq, decide_eq_true_eq, Bool.not_eq_true', decide_eq_false_iff_not, if_true, if_false, Bool.false_eq_true, reduceCtorEq, Bool.true_eq_false, decide_true, decide_false, if_false, Bool.false_eq_true]
  have zz : (S (lo u ++ [PyProof.Rows.lo1 d])).length = u.length + 1 := by
    rw [S_len]
    simp
  have zn : ((S (u ++ [d])).length : Int) - 1 = (u.length : Int) := by
    rw [S_len]
    simp
  have cu : cutS (S (u ++ [d])) none (some (u.length : Int)) = S u := by
    rw [cutS_S, cutL_to, List.take_left]
  -- y
  refine if_pure (cA (lo u) (PyProof.Rows.lo1 d) f) (fun R q => ?_) (fun e => ?_) (fun e => ?_)
  · simp only [tSeq, tAsg, tAnd, tOr, tNot, tTest, tB, tOp, tUn, tCB, tCons, tNil, tVar, tC, gName, rI0, rI, rU, rEq, rNe, rIxS, rIxL, rIxT, tRet, tRetN, tTup, tLst, tSl, tPart, tNoPart, rSlS, tIf, tIfS, tNext, tDrop, tCall, tBM, tBM0, tAndV, tOrV, tNotV, tM0, tM1, gSub, rSetL, sFld, gCons_eq, gNil_eq, tDGet, sDPut, tMeth, tMake, tFld, tChain, tIsN, tNotN,
  List.set_cons_zero, List.set_cons_succ, exists_eq_left', exists_eq_left, exists_eq, V.int.injEq, V.str.injEq, V.bl.injEq, V.ref.injEq, List.cons.injEq, and_true, true_and, List.getElem?_cons_zero, List.getElem?_cons_succ, Option.some.injEq, List.append_nil, exists_and_left, cxOf_K, false_and, and_false, exists_false, false_or, or_false, exists_eq', exists_const, sg_eq, S_eq, S_toList, S_ne, tFor_eq, tLc_eq, iList_eq, iTup_eq, iRng1_eq, iStr_eq, decide_eq_true_eq, Bool.not_eq_true', decide_eq_false_iff_not, if_true, if_false, Bool.false_eq_true, reduceCtorEq, Bool.true_eq_false, decide_true, decide_false, at0']
    unfold cA at q
    refine ⟨rfl, ite2 (fun h1 => ?_) (fun h1 => ?_)⟩
    · rw [h1] at q
      rcases ahd_cases (lo u) with ⟨_, h2⟩ | ⟨v, x, h3, h2⟩
      · rw [h2] at q ⊢
        exact ⟨rfl, by rw [if_neg (fun z => z rfl)]; exact q⟩
      · rw [h2] at q ⊢
        refine ⟨rfl, ?_⟩
        rw [if_pos (by simp)]
        refine in_lst' true [x] [[97], [101], [105], [111], [117]] f1 ⟨_, rfl, ?_⟩
        rw [ev]
        have sx : small x = true := sm x (by rw [h3]; simp)
        have ec : consT [x] = !vow x := by simp [consT, cons, sx]
        rw [ec] at q
        simp only [if_true]
        cases hv : vow x with
        | true =>
          rw [hv] at q
          exact q
        | false =>
          rw [hv] at q
          simp only [Bool.not_false, if_true]
          refine ⟨z3, f, rfl, _, rfl, ?_⟩
          rw [if_pos jp.2.2.2.2]
          refine ⟨z3, rfl, ?_⟩
          have e : (!decide (f = 105)) = (f != 105) := by
            rw [Bool.eq_iff_iff]
            simp
          rw [e]
          exact q
    · rw [show (PyProof.Rows.lo1 d == 121) = false from beq_eq_false_iff_ne.mpr h1] at q
      exact q
  · rw [if_pos e] at k
    simp only [tSeq, tAsg, tAnd, tOr, tNot, tTest, tB, tOp, tUn, tCB, tCons, tNil, tVar, tC, gName, rI0, rI, rU, rEq, rNe, rIxS, rIxL, rIxT, tRet, tRetN, tTup, tLst, tSl, tPart, tNoPart, rSlS, tIf, tIfS, tNext, tDrop, tCall, tBM, tBM0, tAndV, tOrV, tNotV, tM0, tM1, gSub, rSetL, sFld, gCons_eq, gNil_eq, tDGet, sDPut, tMeth, tMake, tFld, tChain, tIsN, tNotN,
  List.set_cons_zero, List.set_cons_succ, exists_eq_left', exists_eq_left, exists_eq, V.int.injEq, V.str.injEq, V.bl.injEq, V.ref.injEq, List.cons.injEq, and_true, true_and, List.getElem?_cons_zero, List.getElem?_cons_succ, Option.some.injEq, List.append_nil, exists_and_left, cxOf_K, false_and, and_false, exists_false, false_or, or_false, exists_eq', exists_const, sg_eq, S_eq, S_toList, S_ne, tFor_eq, tLc_eq, iList_eq, iTup_eq, iRng1_eq, iStr_eq, decide_eq_true_eq, Bool.not_eq_true', decide_eq_false_iff_not, if_true, if_false, Bool.false_eq_true, reduceCtorEq, Bool.true_eq_false, decide_true, decide_false, zn, cu, S_cat]
    refine ⟨z1, z1, (size_le (by (try simp only [S_len, List.length_append, List.length_cons, List.length_nil]); omega)), (size_le (by simp only [List.length_cons, List.length_nil]; decide)), fun p2 n2 => ⟨rfl, _, sq_of upd_same, ?_⟩⟩
    by_cases h : f :: r = [115]
    · rw [if_pos h] at k
      cases h
      rw [if_pos ⟨rfl, rfl⟩]
      refine ⟨_, atI_nat (j := 1) rfl, _, rfl, (size_le (by (try simp only [S_len, List.length_append, List.length_cons, List.length_nil]); omega)), ?_⟩
      rw [S_cat]
      exact k _ (e1.trans (same_new n2))
    · rw [if_neg h] at k
      rw [if_neg (fun z => h (by rw [z.1, z.2]))]
      refine ⟨_, atI_nat (j := 0) rfl, _, rfl, (size_le (by (try simp only [S_len, List.length_append, List.length_cons, List.length_nil]); omega)), ?_⟩
      rw [S_cat]
      exact k _ (e1.trans (same_new n2))
  rw [if_neg (by rw [e]; decide)] at k
  simp only [tSeq, tAsg, tAnd, tOr, tNot, tTest, tB, tOp, tUn, tCB, tCons, tNil, tVar, tC, gName, rI0, rI, rU, rEq, rNe, rIxS, rIxL, rIxT, tRet, tRetN, tTup, tLst, tSl, tPart, tNoPart, rSlS, tIf, tNext, tDrop, tCall, tBM, tBM0, tAndV, tOrV, tNotV, tM0, tM1, gSub, rSetL, sFld, gCons_eq, gNil_eq, tDGet, sDPut, tMeth, tMake, tFld, tChain, tIsN, tNotN,
  List.set_cons_zero, List.set_cons_succ, exists_eq_left', exists_eq_left, exists_eq, V.int.injEq, V.str.injEq, V.bl.injEq, V.ref.injEq, List.cons.injEq, and_true, true_and, List.getElem?_cons_zero, List.getElem?_cons_succ, Option.some.injEq, List.append_nil, exists_and_left, cxOf_K, false_and, and_false, exists_false, false_or, or_false, exists_eq', exists_const, sg_eq, S_eq, S_toList, S_ne, tFor_eq, tLc_eq, iList_eq, iTup_eq, iRng1_eq, iStr_eq, decide_eq_true_eq, Bool.not_eq_true', decide_eq_false_iff_not, if_true, if_false, Bool.false_eq_true, reduceCtorEq, Bool.true_eq_false, decide_true, decide_false]
  refine if_new (cE (lo u) (PyProof.Rows.lo1 d) f) (fun R q => ?_) (fun e H2 s2 => ?_) (fun e H2 s2 => ?_)
  · simp only [tSeq, tAsg, tAnd, tOr, tNot, tTest, tB, tOp, tUn, tCB, tCons, tNil, tVar, tC, gName, rI0, rI, rU, rEq, rNe, rIxS, rIxL, rIxT, tRet, tRetN, tTup, tLst, tSl, tPart, tNoPart, rSlS, tIf, tIfS, tNext, tDrop, tCall, tBM, tBM0, tAndV, tOrV, tNotV, tM0, tM1, gSub, rSetL, sFld, gCons_eq, gNil_eq, tDGet, sDPut, tMeth, tMake, tFld, tChain, tIsN, tNotN,
  List.set_cons_zero, List.set_cons_succ, exists_eq_left', exists_eq_left, exists_eq, V.int.injEq, V.str.injEq, V.bl.injEq, V.ref.injEq, List.cons.injEq, and_true, true_and, List.getElem?_cons_zero, List.getElem?_cons_succ, Option.some.injEq, List.append_nil, exists_and_left, cxOf_K, false_and, and_false, exists_false, false_or, or_false, exists_eq', exists_const, sg_eq, S_eq, S_toList, S_ne, tFor_eq, tLc_eq, iList_eq, iTup_eq, iRng1_eq, iStr_eq, decide_eq_true_eq, Bool.not_eq_true', decide_eq_false_iff_not, if_true, if_false, Bool.false_eq_true, reduceCtorEq, Bool.true_eq_false, decide_true, decide_false]
    unfold cE at q
    refine ⟨rfl, ite2 (fun h1 => ⟨(size_le (by simp only [List.length_cons, List.length_nil]; decide)), fun p np => in_tup true (ahd (lo u)) [[101], [111], [121]] np fun H' s' => ⟨_, rfl, ?_⟩⟩) (fun h1 => ?_)⟩
    · rw [h1] at q
      have q := q H' s'
      simp only [if_true]
      cases hc : [[101], [111], [121]].contains (ahd (lo u)) with
      | false =>
        rw [hc] at q
        simp only [Bool.not_false, if_true]
        exact q
      | true =>
        rw [hc] at q
        exact q
    · rw [show (PyProof.Rows.lo1 d == 101) = false from beq_eq_false_iff_ne.mpr h1] at q
      exact q _ (Same.refl _)
  · rw [if_pos e] at k
    simp only [tSeq, tAsg, tAnd, tOr, tNot, tTest, tB, tOp, tUn, tCB, tCons, tNil, tVar, tC, gName, rI0, rI, rU, rEq, rNe, rIxS, rIxL, rIxT, tRet, tRetN, tTup, tLst, tSl, tPart, tNoPart, rSlS, tIf, tIfS, tNext, tDrop, tCall, tBM, tBM0, tAndV, tOrV, tNotV, tM0, tM1, gSub, rSetL, sFld, gCons_eq, gNil_eq, tDGet, sDPut, tMeth, tMake, tFld, tChain, tIsN, tNotN,
  List.set_cons_zero, List.set_cons_succ, exists_eq_left', exists_eq_left, exists_eq, V.int.injEq, V.str.injEq, V.bl.injEq, V.ref.injEq, List.cons.injEq, and_true, true_and, List.getElem?_cons_zero, List.getElem?_cons_succ, Option.some.injEq, List.append_nil, exists_and_left, cxOf_K, false_and, and_false, exists_false, false_or, or_false, exists_eq', exists_const, sg_eq, S_eq, S_toList, S_ne, tFor_eq, tLc_eq, iList_eq, iTup_eq, iRng1_eq, iStr_eq, decide_eq_true_eq, Bool.not_eq_true', decide_eq_false_iff_not, if_true, if_false, Bool.false_eq_true, reduceCtorEq, Bool.true_eq_false, decide_true, decide_false, zn, cu, S_cat]
    refine ⟨z1, z1, (size_le (by (try simp only [S_len, List.length_append, List.length_cons, List.length_nil]); omega)), k _ (e1.trans s2)⟩
  rw [if_neg (by rw [e]; decide)] at k
  simp only [tSeq, tAsg, tAnd, tOr, tNot, tTest, tB, tOp, tUn, tCB, tCons, tNil, tVar, tC, gName, rI0, rI, rU, rEq, rNe, rIxS, rIxL, rIxT, tRet, tRetN, tTup, tLst, tSl, tPart, tNoPart, rSlS, tIf, tNext, tDrop, tCall, tBM, tBM0, tAndV, tOrV, tNotV, tM0, tM1, gSub, rSetL, sFld, gCons_eq, gNil_eq, tDGet, sDPut, tMeth, tMake, tFld, tChain, tIsN, tNotN,
  List.set_cons_zero, List.set_cons_succ, exists_eq_left', exists_eq_left, exists_eq, V.int.injEq, V.str.injEq, V.bl.injEq, V.ref.injEq, List.cons.injEq, and_true, true_and, List.getElem?_cons_zero, List.getElem?_cons_succ, Option.some.injEq, List.append_nil, exists_and_left, cxOf_K, false_and, and_false, exists_false, false_or, or_false, exists_eq', exists_const, sg_eq, S_eq, S_toList, S_ne, tFor_eq, tLc_eq, iList_eq, iTup_eq, iRng1_eq, iStr_eq, decide_eq_true_eq, Bool.not_eq_true', decide_eq_false_iff_not, if_true, if_false, Bool.false_eq_true, reduceCtorEq, Bool.true_eq_false, decide_true, decide_false]
  refine if_new (cZ (lo u) (PyProof.Rows.lo1 d) (f :: r)) (fun R q => ?_) (fun e H3 s3 => ?_) (fun e H3 s3 => ?_)
  · simp only [tSeq, tAsg, tAnd, tOr, tNot, tTest, tB, tOp, tUn, tCB, tCons, tNil, tVar, tC, gName, rI0, rI, rU, rEq, rNe, rIxS, rIxL, rIxT, tRet, tRetN, tTup, tLst, tSl, tPart, tNoPart, rSlS, tIf, tIfS, tNext, tDrop, tCall, tBM, tBM0, tAndV, tOrV, tNotV, tM0, tM1, gSub, rSetL, sFld, gCons_eq, gNil_eq, tDGet, sDPut, tMeth, tMake, tFld, tChain, tIsN, tNotN,
  List.set_cons_zero, List.set_cons_succ, exists_eq_left', exists_eq_left, exists_eq, V.int.injEq, V.str.injEq, V.bl.injEq, V.ref.injEq, List.cons.injEq, and_true, true_and, List.getElem?_cons_zero, List.getElem?_cons_succ, Option.some.injEq, List.append_nil, exists_and_left, cxOf_K, false_and, and_false, exists_false, false_or, or_false, exists_eq', exists_const, sg_eq, S_eq, S_toList, S_ne, tFor_eq, tLc_eq, iList_eq, iTup_eq, iRng1_eq, iStr_eq, decide_eq_true_eq, Bool.not_eq_true', decide_eq_false_iff_not, if_true, if_false, Bool.false_eq_true, reduceCtorEq, Bool.true_eq_false, decide_true, decide_false, S_cat]
    unfold cZ at q
    refine ⟨rfl, ite2 (fun h1 => ⟨(size_le (by simp only [List.length_cons, List.length_nil]; decide)), fun p np => in_tup false [PyProof.Rows.lo1 d] [[115], [120], [122]] np fun H' s' => ⟨_, rfl, ?_⟩⟩) (fun h1 => ?_)⟩
    · rw [show (f :: r == [115]) = true from by rw [h1.1, h1.2]; rfl] at q
      cases hc : [[115], [120], [122]].contains [PyProof.Rows.lo1 d] with
      | true =>
        rw [hc] at q
        exact q _ s'
      | false =>
        rw [hc] at q
        simp only [Bool.false_eq_true, if_false]
        have hl := ahd_len (lo u)
        exact ⟨(size_le (by (try simp only [S_len, List.length_append, List.length_cons, List.length_nil]); omega)), (size_le (by simp only [List.length_cons, List.length_nil]; decide)), fun p np => in_tup false (ahd (lo u) ++ [PyProof.Rows.lo1 d]) [[99, 104], [115, 104]] np fun H3 s3 => ⟨_, rfl, q _ (s'.trans s3)⟩⟩
    · rw [show (f :: r == [115]) = false from beq_eq_false_iff_ne.mpr fun z => by cases z; exact h1 ⟨rfl, rfl⟩] at q
      exact q _ (Same.refl _)
  · rw [if_pos e] at k
    simp only [tSeq, tAsg, tAnd, tOr, tNot, tTest, tB, tOp, tUn, tCB, tCons, tNil, tVar, tC, gName, rI0, rI, rU, rEq, rNe, rIxS, rIxL, rIxT, tRet, tRetN, tTup, tLst, tSl, tPart, tNoPart, rSlS, tIf, tIfS, tNext, tDrop, tCall, tBM, tBM0, tAndV, tOrV, tNotV, tM0, tM1, gSub, rSetL, sFld, gCons_eq, gNil_eq, tDGet, sDPut, tMeth, tMake, tFld, tChain, tIsN, tNotN,
  List.set_cons_zero, List.set_cons_succ, exists_eq_left', exists_eq_left, exists_eq, V.int.injEq, V.str.injEq, V.bl.injEq, V.ref.injEq, List.cons.injEq, and_true, true_and, List.getElem?_cons_zero, List.getElem?_cons_succ, Option.some.injEq, List.append_nil, exists_and_left, cxOf_K, false_and, and_false, exists_false, false_or, or_false, exists_eq', exists_const, sg_eq, S_eq, S_toList, S_ne, tFor_eq, tLc_eq, iList_eq, iTup_eq, iRng1_eq, iStr_eq, decide_eq_true_eq, Bool.not_eq_true', decide_eq_false_iff_not, if_true, if_false, Bool.false_eq_true, reduceCtorEq, Bool.true_eq_false, decide_true, decide_false, S_cat]
    refine ⟨(size_le (by (try simp only [S_len, List.length_append, List.length_cons, List.length_nil]); omega)), k _ ((e1.trans s2).trans s3)⟩
  rw [if_neg (by rw [e]; decide)] at k
  simp only [tSeq, tAsg, tAnd, tOr, tNot, tTest, tB, tOp, tUn, tCB, tCons, tNil, tVar, tC, gName, rI0, rI, rU, rEq, rNe, rIxS, rIxL, rIxT, tRet, tRetN, tTup, tLst, tSl, tPart, tNoPart, rSlS, tIf, tNext, tDrop, tCall, tBM, tBM0, tAndV, tOrV, tNotV, tM0, tM1, gSub, rSetL, sFld, gCons_eq, gNil_eq, tDGet, sDPut, tMeth, tMake, tFld, tChain, tIsN, tNotN,
  List.set_cons_zero, List.set_cons_succ, exists_eq_left', exists_eq_left, exists_eq, V.int.injEq, V.str.injEq, V.bl.injEq, V.ref.injEq, List.cons.injEq, and_true, true_and, List.getElem?_cons_zero, List.getElem?_cons_succ, Option.some.injEq, List.append_nil, exists_and_left, cxOf_K, false_and, and_false, exists_false, false_or, or_false, exists_eq', exists_const, sg_eq, S_eq, S_toList, S_ne, tFor_eq, tLc_eq, iList_eq, iTup_eq, iRng1_eq, iStr_eq, decide_eq_true_eq, Bool.not_eq_true', decide_eq_false_iff_not, if_true, if_false, Bool.false_eq_true, reduceCtorEq, Bool.true_eq_false, decide_true, decide_false]
  rw [zz]
  refine ⟨size_le (by omega), by omega, by omega, fun L hL => ?_⟩
  rw [Int.toNat_natCast]
  have f3 := s3 _ _ (s2 _ _ f1)
  have tl : (lo u ++ [PyProof.Rows.lo1 d]).length = u.length + 1 := by simp
  refine comp_range (fun i acc H4 => acc = (heard (lo u ++ [PyProof.Rows.lo1 d]) i).map (fun x : Nat => V.int (x : Int)) ∧ Same H3 H4) (by omega) ⟨rfl, same_new hL⟩ upd_same ?_ ?_
  · rintro i acc H4 hi hA hn hi2 ⟨rfl, s4⟩
    simp only [wipe, List.map_cons, List.map_nil, List.set_cons_succ, List.set_cons_zero, tSeq, tAsg, tAnd, tOr, tNot, tTest, tB, tOp, tUn, tCB, tCons, tNil, tVar, tC, gName, rI0, rI, rU, rEq, rNe, rIxS, rIxL, rIxT, tRet, tRetN, tTup, tLst, tSl, tPart, tNoPart, rSlS, tIf, tIfS, tNext, tDrop, tCall, tBM, tBM0, tAndV, tOrV, tNotV, tM0, tM1, gSub, rSetL, sFld, gCons_eq, gNil_eq, tDGet, sDPut, tMeth, tMake, tFld, tChain, tIsN, tNotN,
  List.set_cons_zero, List.set_cons_succ, exists_eq_left', exists_eq_left, exists_eq, V.int.injEq, V.str.injEq, V.bl.injEq, V.ref.injEq, List.cons.injEq, and_true, true_and, List.getElem?_cons_zero, List.getElem?_cons_succ, Option.some.injEq, List.append_nil, exists_and_left, cxOf_K, false_and, and_false, exists_false, false_or, or_false, exists_eq', exists_const, sg_eq, S_eq, S_toList, S_ne, tFor_eq, tLc_eq, iList_eq, iTup_eq, iRng1_eq, iStr_eq, decide_eq_true_eq, Bool.not_eq_true', decide_eq_false_iff_not, if_true, if_false, Bool.false_eq_true, reduceCtorEq, Bool.true_eq_false, decide_true, decide_false]
    have hi3 : i < (lo u ++ [PyProof.Rows.lo1 d]).length := by rw [tl]; exact hi
    refine ⟨z2, _, atI_nat (List.getElem?_eq_getElem hi3), ?_⟩
    refine in_lst' false [(lo u ++ [PyProof.Rows.lo1 d])[i]] [[97], [101], [105], [111], [117]] (s4 _ _ f3) ?_
    rw [ev]
    refine ⟨_, rfl, ?_⟩
    simp only [if_false, Bool.false_eq_true]
    refine ite2 (fun hv => cput hA hn hi2 ⟨?_, same_mut s4 hL⟩) (fun hv => cskip hA hn ⟨?_, s4⟩)
    · rw [heard_succ _ _ hi3, if_pos hv, List.map_append]
      rfl
    · rw [heard_succ _ _ hi3, if_neg hv]
  · rintro acc H4 hA hn ⟨rfl, s4⟩
    refine if_new (cD (lo u) (PyProof.Rows.lo1 d) f) (fun R q => ?_) (fun e H5 s5 => ?_) (fun e H5 s5 => ?_)
    · simp only [tSeq, tAsg, tAnd, tOr, tNot, tTest, tB, tOp, tUn, tCB, tCons, tNil, tVar, tC, gName, rI0, rI, rU, rEq, rNe, rIxS, rIxL, rIxT, tRet, tRetN, tTup, tLst, tSl, tPart, tNoPart, rSlS, tIf, tIfS, tNext, tDrop, tCall, tBM, tBM0, tAndV, tOrV, tNotV, tM0, tM1, gSub, rSetL, sFld, gCons_eq, gNil_eq, tDGet, sDPut, tMeth, tMake, tFld, tChain, tIsN, tNotN,
  List.set_cons_zero, List.set_cons_succ, exists_eq_left', exists_eq_left, exists_eq, V.int.injEq, V.str.injEq, V.bl.injEq, V.ref.injEq, List.cons.injEq, and_true, true_and, List.getElem?_cons_zero, List.getElem?_cons_succ, Option.some.injEq, List.append_nil, exists_and_left, cxOf_K, false_and, and_false, exists_false, false_or, or_false, exists_eq', exists_const, sg_eq, S_eq, S_toList, S_ne, tFor_eq, tLc_eq, iList_eq, iTup_eq, iRng1_eq, iStr_eq, decide_eq_true_eq, Bool.not_eq_true', decide_eq_false_iff_not, if_true, if_false, Bool.false_eq_true, reduceCtorEq, Bool.true_eq_false, decide_true, decide_false, zz]
      have hs := heard_short (lo u ++ [PyProof.Rows.lo1 d]) sm
      rw [tl] at hs
      unfold cD at q
      rw [← hs] at q
      refine ite2 (fun hv => ⟨size_le (by omega), ite2 (fun h2 => ⟨size_le (by omega), (size_le (by simp only [List.length_cons, List.length_nil]; decide)), fun p2 n2 => ?_⟩) (fun h2 => ?_)⟩) (fun hv => ?_)
      · have h3 : 2 < u.length + 1 := by omega
        rw [hv, Bool.and_true, decide_eq_true h3, Bool.true_and] at q
        have e9 : ((u.length + 1 : Nat) : Int) - 2 = ((u.length + 1 - 2 : Nat) : Int) := by omega
        rw [e9]
        have hL2 : (upd H4 p2 (.lst [V.int ((u.length + 1 - 2 : Nat) : Int)])) L = some (.lst (((heard (lo u ++ [PyProof.Rows.lo1 d]) (u.length + 1)).map fun x : Nat => (x : Int)).map V.int)) := by
          rw [upd_ne (ne_of_none hA n2), List.map_map]
          exact hA
        refine ⟨_, _, .lst (sq_of hL2) (dp_ints _), .lst (sq_of (xs := [_]) upd_same) (dp_ints [_]), shaped_ints _, shaped_ints [_], _, rfl, ?_⟩
        rw [show ([((u.length + 1 - 2 : Nat) : Int)].map PyData.int) = [PyData.int ((u.length + 1 - 2 : Nat) : Int)] from rfl, eqv_int1]
        have e10 : decide ((heard (lo u ++ [PyProof.Rows.lo1 d]) (u.length + 1)).map (fun x : Nat => (x : Int)) = [((u.length + 1 - 2 : Nat) : Int)]) = decide (heard (lo u ++ [PyProof.Rows.lo1 d]) (u.length + 1) = [u.length + 1 - 2]) := by
          rw [Bool.eq_iff_iff, decide_eq_true_eq, decide_eq_true_eq]
          constructor
          · intro h
            match heard (lo u ++ [PyProof.Rows.lo1 d]) (u.length + 1), h with
            | [], h => cases h
            | [x], h =>
              simp only [List.map_cons, List.map_nil, List.cons.injEq, and_true] at h ⊢
              omega
            | x :: y :: r, h => cases h
          · intro h
            rw [h]
            rfl
        rw [e10]
        have dl : (lo u ++ [PyProof.Rows.lo1 d]).drop (u.length + 1 - 1) = [PyProof.Rows.lo1 d] := by
          have : u.length + 1 - 1 = (lo u).length := by simp
          rw [this, List.drop_left]
        rw [dl] at q
        cases hh : decide (heard (lo u ++ [PyProof.Rows.lo1 d]) (u.length + 1) = [u.length + 1 - 2]) with
        | false =>
          rw [hh] at q
          exact q _ (same_new n2)
        | true =>
          rw [hh] at q
          simp only [if_true]
          exact ⟨(size_le (by simp only [List.length_cons, List.length_nil]; decide)), fun p np => in_tup true [PyProof.Rows.lo1 d] [[119], [120], [121]] np fun H6 s6 => ⟨_, rfl, q _ ((same_new n2).trans s6)⟩⟩
      · have h3 : ¬ 2 < u.length + 1 := by omega
        rw [decide_eq_false h3] at q
        exact q _ (Same.refl _)
      · rw [Bool.not_eq_true] at hv
        rw [hv, Bool.and_false] at q
        exact q _ (Same.refl _)
    · rw [if_pos e] at k
      simp only [tSeq, tAsg, tAnd, tOr, tNot, tTest, tB, tOp, tUn, tCB, tCons, tNil, tVar, tC, gName, rI0, rI, rU, rEq, rNe, rIxS, rIxL, rIxT, tRet, tRetN, tTup, tLst, tSl, tPart, tNoPart, rSlS, tIf, tIfS, tNext, tDrop, tCall, tBM, tBM0, tAndV, tOrV, tNotV, tM0, tM1, gSub, rSetL, sFld, gCons_eq, gNil_eq, tDGet, sDPut, tMeth, tMake, tFld, tChain, tIsN, tNotN,
  List.set_cons_zero, List.set_cons_succ, exists_eq_left', exists_eq_left, exists_eq, V.int.injEq, V.str.injEq, V.bl.injEq, V.ref.injEq, List.cons.injEq, and_true, true_and, List.getElem?_cons_zero, List.getElem?_cons_succ, Option.some.injEq, List.append_nil, exists_and_left, cxOf_K, false_and, and_false, exists_false, false_or, or_false, exists_eq', exists_const, sg_eq, S_eq, S_toList, S_ne, tFor_eq, tLc_eq, iList_eq, iTup_eq, iRng1_eq, iStr_eq, decide_eq_true_eq, Bool.not_eq_true', decide_eq_false_iff_not, if_true, if_false, Bool.false_eq_true, reduceCtorEq, Bool.true_eq_false, decide_true, decide_false, S_cat]
      refine ⟨(size_le (by (try simp only [S_len, List.length_append, List.length_cons, List.length_nil]); omega)), (size_le (by (try simp only [S_len, List.length_append, List.length_cons, List.length_nil]); omega)), k _ ((((e1.trans s2).trans s3).trans s4).trans s5)⟩
    · rw [if_neg (by rw [e]; decide)] at k
      simp only [tSeq, tAsg, tAnd, tOr, tNot, tTest, tB, tOp, tUn, tCB, tCons, tNil, tVar, tC, gName, rI0, rI, rU, rEq, rNe, rIxS, rIxL, rIxT, tRet, tRetN, tTup, tLst, tSl, tPart, tNoPart, rSlS, tIf, tIfS, tNext, tDrop, tCall, tBM, tBM0, tAndV, tOrV, tNotV, tM0, tM1, gSub, rSetL, sFld, gCons_eq, gNil_eq, tDGet, sDPut, tMeth, tMake, tFld, tChain, tIsN, tNotN,
  List.set_cons_zero, List.set_cons_succ, exists_eq_left', exists_eq_left, exists_eq, V.int.injEq, V.str.injEq, V.bl.injEq, V.ref.injEq, List.cons.injEq, and_true, true_and, List.getElem?_cons_zero, List.getElem?_cons_succ, Option.some.injEq, List.append_nil, exists_and_left, cxOf_K, false_and, and_false, exists_false, false_or, or_false, exists_eq', exists_const, sg_eq, S_eq, S_toList, S_ne, tFor_eq, tLc_eq, iList_eq, iTup_eq, iRng1_eq, iStr_eq, decide_eq_true_eq, Bool.not_eq_true', decide_eq_false_iff_not, if_true, if_false, Bool.false_eq_true, reduceCtorEq, Bool.true_eq_false, decide_true, decide_false, S_cat]
      exact ⟨(size_le (by (try simp only [S_len, List.length_append, List.length_cons, List.length_nil]); omega)), k _ ((((e1.trans s2).trans s3).trans s4).trans s5)⟩
end
/-! ### what is shown: the plain law -/
inductive Sz where
  | no
  | great
  | all
def szT : Sz → Tx
  | .no => []
  | .great => wGreat
  | .all => wAll
structure Sh where
  line : Tx
  tied : Bool
  size : Sz
  glued : Bool
def sized (s : Sz) (w : Tx) : Tx := match s with
  | .no => w
  | .great => (match w with
    | [] => []
    | c :: r => PyProof.Rows.up1 c :: r)
  | .all => w.map PyProof.Rows.up1
def putS (s : Sh) (w : Tx) (close : Bool) : Sh := ⟨(if !s.line.isEmpty && (!close && !s.tied) then s.line ++ [32] else s.line) ++ sized s.size w, false, .no, false⟩
def tailL (t : Tx) : Tx := (t.reverse.takeWhile letr).reverse
def headL (t : Tx) : Tx := (t.reverse.dropWhile letr).reverse
def joinW (w e : Tx) : Tx := match w.reverse, e with
  | d :: u, f :: r => jo u.reverse d f r
  | _, _ => w ++ e
def smallHd : Tx → Bool
  | f :: _ => small f
  | [] => false
def endS (s : Sh) (e : Tx) : Sh := ⟨if !(tailL s.line).isEmpty && smallHd e then headL s.line ++ joinW (tailL s.line) e else s.line ++ e, false, s.size, false⟩
def joinS (s : Sh) (w : Tx) (l r : Bool) : Sh :=
  let s1 := if w.isEmpty then s else if l then endS s w else putS s w false
  { s1 with tied := r, glued := false }
def stopS (s : Sh) (c : Nat) : Sh := ⟨s.line ++ [c], false, if [46, 63, 33].contains c then .great else s.size, false⟩
def lastS (s : Sh) : Sh := { s with line := match tailL s.line with
  | [] => s.line
  | c :: r => headL s.line ++ PyProof.Rows.up1 c :: r }
def doA (s : Sh) : Act → Sh
  | .word t => putS s t false
  | .glue t => { putS s t s.glued with glued := true }
  | .join t l r => joinS s t l r
  | .stop c => stopS s c
  | .great => { s with size := .great }
  | .all => { s with size := .all }
  | .last => lastS s
  | .back => s
  | .again => s
theorem head_tail (t : Tx) : headL t ++ tailL t = t := by
  rw [headL, tailL, ← List.reverse_append, List.takeWhile_append_dropWhile, List.reverse_reverse]
theorem tail_letr (t : Tx) : ∀ c ∈ tailL t, letr c = true := fun c hc => by
  rw [tailL, List.mem_reverse] at hc
  exact List.all_eq_true.mp (List.all_takeWhile (l := t.reverse) (p := letr)) c hc
theorem split_at {a b : Tx} (hb : ∀ c ∈ b, letr c = true) (ha : a = [] ∨ ∃ a' c, a = a' ++ [c] ∧ letr c = false) : headL (a ++ b) = a ∧ tailL (a ++ b) = b := by
  have h1 : (b.reverse ++ a.reverse).takeWhile letr = b.reverse ∧ (b.reverse ++ a.reverse).dropWhile letr = a.reverse := by
    have hb' : ∀ c ∈ b.reverse, letr c = true := fun c hc => hb c (List.mem_reverse.mp hc)
    have ha' : a.reverse = [] ∨ ∃ c r, a.reverse = c :: r ∧ letr c = false := by
      rcases ha with rfl | ⟨a', c, rfl, hc⟩
      · exact .inl rfl
      · exact .inr ⟨c, a'.reverse, by simp, hc⟩
    generalize b.reverse = x at hb'
    generalize a.reverse = y at ha'
    induction x with
    | nil =>
      rcases ha' with rfl | ⟨c, r, rfl, hc⟩
      · exact ⟨rfl, rfl⟩
      · simp [hc]
    | cons c r ih =>
      have hc := hb' c List.mem_cons_self
      have := ih fun z hz => hb' z (List.mem_cons_of_mem _ hz)
      simp [hc, this]
  rw [headL, tailL, List.reverse_append, h1.1, h1.2, List.reverse_reverse, List.reverse_reverse]
  exact ⟨rfl, rfl⟩
/-! sizes, signs -/
theorem jo_len (u : Tx) (d f : Nat) (r : Tx) : (jo u d f r).length ≤ u.length + r.length + 4 := by
  unfold jo
  split
  · split <;> simp <;> omega
  · split
    · simp; omega
    · split
      · simp
        omega
      · split <;> simp <;> omega
theorem jo_asc {u : Tx} {d f : Nat} {r : Tx} (h : jPre u d f r) (hr : asc r) : asc (jo u d f r) := by
  have hu : asc u := fun c hc => letr_lt (h.2.2.1 c hc)
  have hd : d < 128 := letr_lt h.2.2.2.1
  have hf : f < 128 := by
    have := h.2.2.2.2
    simp only [small, Bool.and_eq_true, decide_eq_true_eq] at this
    omega
  have hl := lo1_lt hd
  have one : ∀ {c : Nat} {t : Tx}, c < 128 → asc t → asc (c :: t) := fun hc ht x hx => (List.mem_cons.mp hx).elim (fun e => e ▸ hc) (ht x)
  have nl : asc [] := fun c hc => nomatch hc
  unfold jo
  split
  · split
    · exact asc_app hu (asc_of rfl)
    · exact asc_app hu (one (by decide) (one hf hr))
  · split
    · exact asc_app hu (one hf hr)
    · split
      · exact asc_app (asc_app hu (one hd nl)) (asc_of rfl)
      · split
        · exact asc_app (asc_app (asc_app hu (one hd nl)) (one hl nl)) (one hf hr)
        · exact asc_app (asc_app hu (one hd nl)) (one hf hr)
theorem joinW_eq (u : Tx) (d f : Nat) (r : Tx) : joinW (u ++ [d]) (f :: r) = jo u d f r := by
  simp [joinW]
theorem up1_lt {c : Nat} (h : c < 128) : PyProof.Rows.up1 c < 128 := by
  simp only [PyProof.Rows.up1]
  split <;> omega
theorem sized_len (s : Sz) (w : Tx) : (sized s w).length = w.length := by
  cases s with
  | no => rfl
  | all => simp [sized]
  | great => cases w <;> rfl
theorem sized_asc (s : Sz) {w : Tx} (h : asc w) : asc (sized s w) := by
  cases s with
  | no => exact h
  | all =>
    intro c hc
    obtain ⟨x, hx, rfl⟩ := List.mem_map.mp hc
    exact up1_lt (h x hx)
  | great =>
    cases w with
    | nil => exact h
    | cons c r =>
      intro x hx
      rcases List.mem_cons.mp hx with e | e
      · rw [e]
        exact up1_lt (h c List.mem_cons_self)
      · exact h x (List.mem_cons_of_mem _ e)
/-- a state whose text is of plain signs and not too long -/
def shOk (n : Nat) (s : Sh) : Prop := asc s.line ∧ s.line.length ≤ n
theorem put_okS {n : Nat} {s : Sh} {w : Tx} {c : Bool} (h : shOk n s) (hw : asc w) (hl : w.length ≤ 70) : shOk (n + 80) (putS s w c) := by
  obtain ⟨h1, h2⟩ := h
  refine ⟨asc_app ?_ (sized_asc _ hw), ?_⟩
  · split
    · exact asc_app h1 (asc_of rfl)
    · exact h1
  · simp only [putS, List.length_append, sized_len]
    split
    · rw [List.length_append, List.length_singleton]
      omega
    · omega
theorem tail_len (t : Tx) : (headL t).length + (tailL t).length = t.length := by
  rw [← List.length_append, head_tail]
theorem asc_head {t : Tx} (h : asc t) : asc (headL t) := fun c hc => h c (by rw [← head_tail t]; exact List.mem_append_left _ hc)
theorem asc_tail {t : Tx} (h : asc t) : asc (tailL t) := fun c hc => h c (by rw [← head_tail t]; exact List.mem_append_right _ hc)
theorem joinW_ok {w e : Tx} (hw : ∀ c ∈ w, letr c = true) (hl : w.length ≤ 90000) (he : asc e) (hl2 : e.length ≤ 70) (hs : smallHd e = true) : asc (joinW w e) ∧ (joinW w e).length ≤ w.length + e.length + 3 := by
  have hw2 : asc w := fun c hc => letr_lt (hw c hc)
  match e, hs with
  | f :: r, hs =>
    rcases List.eq_nil_or_concat w with rfl | ⟨u, d, rfl⟩
    · exact ⟨he, by simp [joinW]⟩
    · rw [List.concat_eq_append] at *
      rw [joinW_eq]
      have hj : jPre u d f r := ⟨by rw [List.length_append] at hl; omega, by rw [List.length_cons] at hl2; omega, fun c hc => hw c (List.mem_append_left _ hc), hw d (List.mem_append_right _ List.mem_cons_self), hs⟩
      refine ⟨jo_asc hj fun c hc => he c (List.mem_cons_of_mem _ hc), ?_⟩
      have := jo_len u d f r
      rw [List.length_append, List.length_singleton, List.length_cons]
      omega
theorem end_okS {n : Nat} {s : Sh} {w : Tx} (hn : n ≤ 50000) (h : shOk n s) (hw : asc w) (hl : w.length ≤ 70) : shOk (n + 80) (endS s w) := by
  obtain ⟨h1, h2⟩ := h
  simp only [shOk, endS]
  have tl := tail_len s.line
  split
  · rename_i hc
    rw [Bool.and_eq_true] at hc
    obtain ⟨j1, j2⟩ := joinW_ok (tail_letr s.line) (by omega) hw hl hc.2
    refine ⟨asc_app (asc_head h1) j1, ?_⟩
    rw [List.length_append]
    omega
  · exact ⟨asc_app h1 hw, by rw [List.length_append]; omega⟩
theorem shOk.mono {n m : Nat} {s : Sh} (h : shOk n s) (l : n ≤ m) : shOk m s := ⟨h.1, Nat.le_trans h.2 l⟩
theorem do_okS {n : Nat} {s : Sh} {a : Act} (hn : n ≤ 50000) (h : shOk n s) (ha : actOk a) : shOk (n + 80) (doA s a) := by
  cases a with
  | word t => exact put_okS h ha.asc (Nat.le_trans ha.2.1 (by decide))
  | glue t => exact put_okS (c := s.glued) h ha.asc (Nat.le_trans ha.2.1 (by decide))
  | join t l r =>
    have ht : asc t ∧ t.length ≤ 70 := by
      rcases ha with h | ⟨rfl, _⟩
      · exact ⟨h.1.asc, Nat.le_trans h.1.2.1 (by decide)⟩
      · exact ⟨fun c hc => (nomatch hc), by decide⟩
    have : shOk (n + 80) (if t.isEmpty then s else if l then endS s t else putS s t false) := by
      split
      · exact h.mono (by omega)
      · split
        · exact end_okS hn h ht.1 ht.2
        · exact put_okS h ht.1 ht.2
    exact this
  | stop c => exact ⟨asc_app h.1 fun x hx => by rw [List.mem_singleton.mp hx]; exact stopC_lt ha, by simp only [doA, stopS, List.length_append, List.length_singleton]; have := h.2; omega⟩
  | great => exact h.mono (n := n) (s := s) (by omega)
  | all => exact h.mono (n := n) (s := s) (by omega)
  | back => exact h.mono (by omega)
  | again => exact h.mono (by omega)
  | last =>
    have tl := tail_len s.line
    have h2 := h.2
    simp only [doA, lastS, shOk]
    split
    · exact ⟨h.1, by omega⟩
    · rename_i c r e
      have ta := asc_tail h.1
      rw [e] at ta tl
      refine ⟨asc_app (asc_head h.1) fun x hx => ?_, ?_⟩
      · rcases List.mem_cons.mp hx with e | e
        · rw [e]
          exact up1_lt (ta c List.mem_cons_self)
        · exact ta x (List.mem_cons_of_mem _ e)
      · rw [List.length_append, List.length_cons]
        rw [List.length_cons] at tl
        omega
/-- a piece as it is shown: none's row, or its actions -/
def showP (s : Sh) : Tx × Option (List Act) → Sh
  | (r, none) => putS s r false
  | (_, some e) => e.foldl doA s
def sh0 : Sh := ⟨[], false, .no, false⟩
def showAll (ps : List (Tx × Option (List Act))) : Tx := (ps.foldl showP sh0).line
/-! ### the program's Shown -/
structure K_Shown (K : PySem.W.Frag) (C : Addr) : Prop where
  cls : Cls K C
  n_line : NoAttr K C "line"
  n_tied : NoAttr K C "tied"
  n_size : NoAttr K C "size"
  n_glued : NoAttr K C "glued"

def pf (s : Sh) : List (Str × V) := [("line", .str (S s.line)), ("tied", .bl s.tied), ("size", .str (S (szT s.size))), ("glued", .bl s.glued)]
theorem pf_len (s : Sh) : (pf s).length < 1000 := by
  show 4 < 1000
  decide
theorem putf_line (s : Sh) (t : Tx) : putF "line" (.str (S t)) (pf s) = pf { s with line := t } := rfl
theorem putf_tied (s : Sh) (b : Bool) : putF "tied" (.bl b) (pf s) = pf { s with tied := b } := rfl
theorem putf_glued (s : Sh) (b : Bool) : putF "glued" (.bl b) (pf s) = pf { s with glued := b } := rfl
theorem putf_no (s : Sh) : putF "size" (.str (S [])) (pf s) = pf { s with size := .no } := rfl
theorem putf_great (s : Sh) : putF "size" (.str (S [103, 114, 101, 97, 116])) (pf s) = pf { s with size := .great } := rfl
theorem putf_all (s : Sh) : putF "size" (.str (S [97, 108, 108])) (pf s) = pf { s with size := .all } := rfl
section
variable {P : Program} {w : World} {K : PySem.W.Frag} {mg : Str → Option Value} {base : Heap} {C_Shown : Addr}
section
variable {H : Hp} {p dx : Addr} {s : Sh} {Q : V → Prop} {R : Addr → Addr → List (Str × V) → Prop}
theorem rd_line (k : K_Shown K C_Shown) (hp : H p = some (.ins C_Shown dx (pf s))) : (∃ C' dx' fs', H p = some (.ins C' dx' fs') ∧ Cls K C' ∧ NoAttr K C' "line" ∧ ∃ v', fs'.lookup ("line" : Str) = some v' ∧ Q v') ↔ Q (.str (S s.line)) := fld_iff hp k.cls k.n_line rfl
theorem rd_tied (k : K_Shown K C_Shown) (hp : H p = some (.ins C_Shown dx (pf s))) : (∃ C' dx' fs', H p = some (.ins C' dx' fs') ∧ Cls K C' ∧ NoAttr K C' "tied" ∧ ∃ v', fs'.lookup ("tied" : Str) = some v' ∧ Q v') ↔ Q (.bl s.tied) := fld_iff hp k.cls k.n_tied rfl
theorem rd_glued (k : K_Shown K C_Shown) (hp : H p = some (.ins C_Shown dx (pf s))) : (∃ C' dx' fs', H p = some (.ins C' dx' fs') ∧ Cls K C' ∧ NoAttr K C' "glued" ∧ ∃ v', fs'.lookup ("glued" : Str) = some v' ∧ Q v') ↔ Q (.bl s.glued) := fld_iff hp k.cls k.n_glued rfl
theorem rd_size (k : K_Shown K C_Shown) (hp : H p = some (.ins C_Shown dx (pf s))) : (∃ C' dx' fs', H p = some (.ins C' dx' fs') ∧ Cls K C' ∧ NoAttr K C' "size" ∧ ∃ v', fs'.lookup ("size" : Str) = some v' ∧ Q v') ↔ Q (.str (S (szT s.size))) := fld_iff hp k.cls k.n_size rfl
theorem wr_line (k : K_Shown K C_Shown) (hp : H p = some (.ins C_Shown dx (pf s))) : (∃ C' dx' fs', H p = some (.ins C' dx' fs') ∧ Cls K C' ∧ NoAttr K C' "line" ∧ fs'.length < 1000 ∧ R C' dx' fs') ↔ R C_Shown dx (pf s) := fput_iff hp k.cls k.n_line (pf_len _)
theorem wr_tied (k : K_Shown K C_Shown) (hp : H p = some (.ins C_Shown dx (pf s))) : (∃ C' dx' fs', H p = some (.ins C' dx' fs') ∧ Cls K C' ∧ NoAttr K C' "tied" ∧ fs'.length < 1000 ∧ R C' dx' fs') ↔ R C_Shown dx (pf s) := fput_iff hp k.cls k.n_tied (pf_len _)
theorem wr_size (k : K_Shown K C_Shown) (hp : H p = some (.ins C_Shown dx (pf s))) : (∃ C' dx' fs', H p = some (.ins C' dx' fs') ∧ Cls K C' ∧ NoAttr K C' "size" ∧ fs'.length < 1000 ∧ R C' dx' fs') ↔ R C_Shown dx (pf s) := fput_iff hp k.cls k.n_size (pf_len _)
theorem wr_glued (k : K_Shown K C_Shown) (hp : H p = some (.ins C_Shown dx (pf s))) : (∃ C' dx' fs', H p = some (.ins C' dx' fs') ∧ Cls K C' ∧ NoAttr K C' "glued" ∧ fs'.length < 1000 ∧ R C' dx' fs') ↔ R C_Shown dx (pf s) := fput_iff hp k.cls k.n_glued (pf_len _)
theorem wu_tied (k : K_Shown K C_Shown) : (∃ C' dx' fs', upd H p (.ins C_Shown dx (pf s)) p = some (.ins C' dx' fs') ∧ Cls K C' ∧ NoAttr K C' "tied" ∧ fs'.length < 1000 ∧ R C' dx' fs') ↔ R C_Shown dx (pf s) := wr_tied k upd_same
theorem wu_glued (k : K_Shown K C_Shown) : (∃ C' dx' fs', upd H p (.ins C_Shown dx (pf s)) p = some (.ins C' dx' fs') ∧ Cls K C' ∧ NoAttr K C' "glued" ∧ fs'.length < 1000 ∧ R C' dx' fs') ↔ R C_Shown dx (pf s) := wr_glued k upd_same
theorem wu_size (k : K_Shown K C_Shown) : (∃ C' dx' fs', upd H p (.ins C_Shown dx (pf s)) p = some (.ins C' dx' fs') ∧ Cls K C' ∧ NoAttr K C' "size" ∧ fs'.length < 1000 ∧ R C' dx' fs') ↔ R C_Shown dx (pf s) := wr_size k upd_same
theorem ru_size (k : K_Shown K C_Shown) : (∃ C' dx' fs', upd H p (.ins C_Shown dx (pf s)) p = some (.ins C' dx' fs') ∧ Cls K C' ∧ NoAttr K C' "size" ∧ ∃ v', fs'.lookup ("size" : Str) = some v' ∧ Q v') ↔ Q (.str (S (szT s.size))) := rd_size k upd_same
end
/-- the page at p -/
abbrev Pg (C p dx : Addr) (s : Sh) (G H : Hp) : Prop := Ob p (.ins C dx (pf s)) G H
def sp_sized (C : Addr) : Sp := fun vs H Q _ => ∃ (p dx : Addr) (s : Sh) (G : Hp) (w : Tx), vs = [.ref p, .str (S w)] ∧ Pg C p dx s G H ∧ asc w ∧ w.length ≤ 70 ∧ ∀ H', Pg C p dx { s with size := .no } G H' → Q (.str (S (sized s.size w))) H'
abbrev s_Shown_sized : Stmt := (inClass (top 8) 1)
theorem sc_Shown_sized : FnScope ["self", "word", "size"] ["self", "word"] (defScope s_Shown_sized) := ⟨rfl, rfl, rfl, by decide +kernel, rfl, by decide +kernel, by decide +kernel⟩

theorem ok_Shown_sized {f : Addr} {fd : FuncData} (F : FunM K "sized" "Shown.sized" s_Shown_sized f fd) (k_Shown : K_Shown K C_Shown) : FnOk P w K mg base CX0 1 f fd ["self", "word"] (sp_sized C_Shown) := by
  refine F.ok sc_Shown_sized (fun vs H Q E h => ?_) (fun cdv A outer s H vs Q E hr h => ?_)
  · obtain ⟨p, dx, s, G, w, rfl, _⟩ := h
    rfl
  obtain ⟨p, dx, sh, G, w, rfl, B, hw, hl, k⟩ := h
  refine ⟨_, PSs.nox (pss_cons (ps_set (i := 2) sc_Shown_sized.nd rfl (.inl rfl) (pe_fld (pv 0) rfl))
  (pss_cons (ps_fld (pv 0) pe_str rfl)
  (pss_cons (ps_if (pt_cmpR op_eq (pv 2) pe_str (nomark _))
    (pss_one (ps_ret (pe_upper (pv 1))))
    pss_nil)
  (pss_cons (ps_if (pt_cmpR op_eq (pv 2) pe_str (nomark _))
    (pss_one (ps_ret (pe_op op_add_str (pe_upper (pe_slice sl_str (pv 1) po_none (po_some pe_int))) (pe_slice sl_str (pv 1) (po_some pe_int) po_none))))
    pss_nil)
  (pss_one (ps_ret (pv 1))))))), ?_⟩
  have hp := B.at
  simp only [tSeq, tAsg, tAnd, tOr, tNot, tTest, tB, tOp, tUn, tCB, tCons, tNil, tVar, tC, gName, rI0, rI, rU, rEq, rNe, rIxS, rIxL, rIxT, tRet, tRetN, tTup, tLst, tSl, tPart, tNoPart, rSlS, tIf, tIfS, tNext, tDrop, tCall, tBM, tBM0, tAndV, tOrV, tNotV, tM0, tM1, gSub, rSetL, sFld, gCons_eq, gNil_eq, tDGet, sDPut, tMeth, tMake, tFld, tChain, tIsN, tNotN,
  List.set_cons_zero, List.set_cons_succ, exists_eq_left', exists_eq_left, exists_eq, V.int.injEq, V.str.injEq, V.bl.injEq, V.ref.injEq, List.cons.injEq, and_true, true_and, List.getElem?_cons_zero, List.getElem?_cons_succ, Option.some.injEq, List.append_nil, exists_and_left, cxOf_K, false_and, and_false, exists_false, false_or, or_false, exists_eq', exists_const, sg_eq, S_eq, S_toList, S_ne, tFor_eq, tLc_eq, iList_eq, iTup_eq, iRng1_eq, iStr_eq, decide_eq_true_eq, Bool.not_eq_true', decide_eq_false_iff_not, if_true, if_false, Bool.false_eq_true, reduceCtorEq, Bool.true_eq_false, decide_true, decide_false, lit_, lit_97_108_108, lit_103_114_101_97_116, start2_3, rd_size k_Shown hp, wr_size k_Shown hp, putf_no]
  have eu : Txt.upper (S w) = S (w.map PyProof.Rows.up1) := SX.upper_S (all_asc hw)
  have z : (S w).length ≤ 100 := by rw [S_len]; omega
  have q := k _ B.put
  obtain ⟨ln, td, sz, gl⟩ := sh
  cases sz with
  | no => exact ⟨rfl, rfl, q⟩
  | all =>
    simp only [szT, if_true, eu]
    exact ⟨rfl, Nat.le_trans z (by decide), q⟩
  | great =>
    have c1 : cutS (S w) none (some 1) = S (w.take 1) := by
      rw [cutS_S]
      exact congrArg S (cutL_to w 1)
    have c2 : cutS (S w) (some 1) none = S (w.drop 1) := by
      rw [cutS_S]
      exact congrArg S (cutL_from w 1)
    have e1 : Txt.upper (S (w.take 1)) = S ((w.take 1).map PyProof.Rows.up1) := SX.upper_S (all_asc (asc_take 1 hw))
    simp only [szT]
    rw [if_neg (by decide), c1, c2, e1, S_cat]
    refine ⟨rfl, rfl, ?_⟩
    simp only [if_true]
    refine ⟨Nat.le_trans z (by decide), Nat.le_trans (by rw [S_len, List.length_take]; omega : (S (w.take 1)).length ≤ 1) (by decide), Nat.le_trans z (by decide), size_le (by rw [S_len, S_len, List.length_map, List.length_take, List.length_drop]; omega), ?_⟩
    have e2 : (w.take 1).map PyProof.Rows.up1 ++ w.drop 1 = sized .great w := by cases w <;> rfl
    rw [e2]
    exact q
theorem st_put_put {s : Sh} {w : Tx} {c : Bool} : ({ line := (if !s.line.isEmpty && (!c && !s.tied) then s.line ++ [32] else s.line) ++ sized s.size w, tied := false, size := Sz.no, glued := false } : Sh) = putS s w c := rfl
def sp_put (C : Addr) : Sp := fun vs H Q _ => ∃ (p dx : Addr) (s : Sh) (G : Hp) (w : Tx) (c : Bool), vs = [.ref p, .str (S w), .bl c] ∧ Pg C p dx s G H ∧ shOk 60000 s ∧ asc w ∧ w.length ≤ 70 ∧ ∀ H', Pg C p dx (putS s w c) G H' → Q .non H'
abbrev s_Shown_put : Stmt := (inClass (top 8) 2)
theorem sc_Shown_put : FnScope ["self", "word", "close"] ["self", "word", "close"] (defScope s_Shown_put) := ⟨rfl, rfl, rfl, by decide +kernel, rfl, by decide +kernel, by decide +kernel⟩

theorem ok_Shown_put {f : Addr} {fd : FuncData} (F : FunM K "put" "Shown.put" s_Shown_put f fd) (k_Shown : K_Shown K C_Shown) (c_Shown_sized : Met P w K mg base CX0 1 C_Shown "sized" (sp_sized C_Shown)) : FnOk P w K mg base CX0 2 f fd ["self", "word", "close"] (sp_put C_Shown) := by
  refine F.ok sc_Shown_put (fun vs H Q E h => ?_) (fun cdv A outer s H vs Q E hr h => ?_)
  · obtain ⟨p, dx, s, G, w, c, rfl, _⟩ := h
    rfl
  obtain ⟨p, dx, sh, G, w, c, rfl, B, hs, hw, hl, k⟩ := h
  refine ⟨_, PSs.nox (pss_cons (ps_if (PW.pt (pw_and (pt_cmpR op_ne (pe_fld (pv 0) rfl) pe_str (nomark _)) (pw_and (pt_not (pt_val (pv 2))) (pw_and1 (pt_not (pt_val (pe_fld (pv 0) rfl)))))))
    (pss_one (ps_fld (pv 0) (pe_op op_add_str (pe_fld (pv 0) rfl) pe_str) rfl))
    pss_nil)
  (pss_cons (ps_fld (pv 0) (pe_op op_add_str (pe_fld (pv 0) rfl) (pe_mt c_Shown_sized hr (by decide) (pv 0) (pa_cons (pv 1) pa_nil))) rfl)
  (pss_cons (ps_fld (pv 0) pe_bl rfl)
  (pss_one (ps_fld (pv 0) pe_bl rfl))))), ?_⟩
  have hp := B.at
  obtain ⟨ln, td, sz, gl⟩ := sh
  have hs1 : asc ln := hs.1
  have hs2 : ln.length ≤ 60000 := hs.2
  simp only [tSeq, tAsg, tAnd, tOr, tNot, tTest, tB, tOp, tUn, tCB, tCons, tNil, tVar, tC, gName, rI0, rI, rU, rEq, rNe, rIxS, rIxL, rIxT, tRet, tRetN, tTup, tLst, tSl, tPart, tNoPart, rSlS, tIf, tNext, tDrop, tCall, tBM, tBM0, tAndV, tOrV, tNotV, tM0, tM1, gSub, rSetL, sFld, gCons_eq, gNil_eq, tDGet, sDPut, tMeth, tMake, tFld, tChain, tIsN, tNotN,
  List.set_cons_zero, List.set_cons_succ, exists_eq_left', exists_eq_left, exists_eq, V.int.injEq, V.str.injEq, V.bl.injEq, V.ref.injEq, List.cons.injEq, and_true, true_and, List.getElem?_cons_zero, List.getElem?_cons_succ, Option.some.injEq, List.append_nil, exists_and_left, cxOf_K, false_and, and_false, exists_false, false_or, or_false, exists_eq', exists_const, sg_eq, S_eq, S_toList, S_ne, tFor_eq, tLc_eq, iList_eq, iTup_eq, iRng1_eq, iStr_eq, decide_eq_true_eq, Bool.not_eq_true', decide_eq_false_iff_not, if_true, if_false, Bool.false_eq_true, reduceCtorEq, Bool.true_eq_false, decide_true, decide_false, lit_, lit_32, start3_3]
  refine if_fin (fun σ' H' => σ' = [some (.ref p), some (.str (S w)), some (.bl c)] ∧ Pg C_Shown p dx ⟨if !ln.isEmpty && (!c && !td) then ln ++ [32] else ln, td, sz, gl⟩ G H') ?_ ?_
  rotate_left
  · intro nx fin
    simp only [tSeq, tAsg, tAnd, tOr, tNot, tTest, tB, tOp, tUn, tCB, tCons, tNil, tVar, tC, gName, rI0, rI, rU, rEq, rNe, rIxS, rIxL, rIxT, tRet, tRetN, tTup, tLst, tSl, tPart, tNoPart, rSlS, tIf, tIfS, tNext, tDrop, tCall, tBM, tBM0, tAndV, tOrV, tNotV, tM0, tM1, gSub, rSetL, sFld, gCons_eq, gNil_eq, tDGet, sDPut, tMeth, tMake, tFld, tChain, tIsN, tNotN,
  List.set_cons_zero, List.set_cons_succ, exists_eq_left', exists_eq_left, exists_eq, V.int.injEq, V.str.injEq, V.bl.injEq, V.ref.injEq, List.cons.injEq, and_true, true_and, List.getElem?_cons_zero, List.getElem?_cons_succ, Option.some.injEq, List.append_nil, exists_and_left, cxOf_K, false_and, and_false, exists_false, false_or, or_false, exists_eq', exists_const, sg_eq, S_eq, S_toList, S_ne, tFor_eq, tLc_eq, iList_eq, iTup_eq, iRng1_eq, iStr_eq, decide_eq_true_eq, Bool.not_eq_true', decide_eq_false_iff_not, if_true, if_false, Bool.false_eq_true, reduceCtorEq, Bool.true_eq_false, decide_true, decide_false, rd_line k_Shown hp, rd_tied k_Shown hp, wr_line k_Shown hp, putf_line, S_cat]
    have yes : ∀ b : Bool, (!ln.isEmpty && (!c && !td)) = b → (b = true → nx [some (.ref p), some (.str (S w)), some (.bl c)] (upd H p (.ins C_Shown dx (pf ⟨ln ++ [32], td, sz, gl⟩)))) ∧ (b = false → nx [some (.ref p), some (.str (S w)), some (.bl c)] H) := by
      intro b hb
      constructor
      · rintro rfl
        exact fin _ _ ⟨rfl, by rw [hb]; exact B.put⟩
      · rintro rfl
        exact fin _ _ ⟨rfl, by rw [hb]; exact B⟩
    have yes := yes _ rfl
    cases ln with
    | nil => exact ⟨rfl, by simp only [not_true_eq_false, if_false]; exact yes.2 rfl⟩
    | cons x r =>
      refine ⟨rfl, ?_⟩
      rw [if_pos (by simp)]
      cases c with
      | true => exact yes.2 rfl
      | false =>
        cases td with
        | true => exact yes.2 rfl
        | false =>
          simp only [if_true]
          refine ⟨size_le (by simp only [S_len, List.length_cons, List.length_nil] at hs2 ⊢; omega), yes.1 rfl⟩
  rintro _ H1 ⟨rfl, B1⟩
  have hp1 := B1.at
  simp only [tSeq, tAsg, tAnd, tOr, tNot, tTest, tB, tOp, tUn, tCB, tCons, tNil, tVar, tC, gName, rI0, rI, rU, rEq, rNe, rIxS, rIxL, rIxT, tRet, tRetN, tTup, tLst, tSl, tPart, tNoPart, rSlS, tIf, tIfS, tNext, tDrop, tCall, tBM, tBM0, tAndV, tOrV, tNotV, tM0, tM1, gSub, rSetL, sFld, gCons_eq, gNil_eq, tDGet, sDPut, tMeth, tMake, tFld, tChain, tIsN, tNotN,
  List.set_cons_zero, List.set_cons_succ, exists_eq_left', exists_eq_left, exists_eq, V.int.injEq, V.str.injEq, V.bl.injEq, V.ref.injEq, List.cons.injEq, and_true, true_and, List.getElem?_cons_zero, List.getElem?_cons_succ, Option.some.injEq, List.append_nil, exists_and_left, cxOf_K, false_and, and_false, exists_false, false_or, or_false, exists_eq', exists_const, sg_eq, S_eq, S_toList, S_ne, tFor_eq, tLc_eq, iList_eq, iTup_eq, iRng1_eq, iStr_eq, decide_eq_true_eq, Bool.not_eq_true', decide_eq_false_iff_not, if_true, if_false, Bool.false_eq_true, reduceCtorEq, Bool.true_eq_false, decide_true, decide_false, rd_line k_Shown hp1]
  have z : (if (!ln.isEmpty && (!c && !td)) = true then ln ++ [32] else ln).length ≤ 60001 := by
    split
    · rw [List.length_append, List.length_singleton]
      omega
    · omega
  refine ⟨_, _, hp1, rfl, p, dx, _, G, w, rfl, B1, hw, hl, fun H2 B2 => ⟨_, rfl, size_le (by rw [S_len, S_len, sized_len]; omega), ?_⟩⟩
  have hp2 := B2.at
  simp only [S_cat, wr_line k_Shown hp2, putf_line, wu_tied k_Shown, putf_tied, wu_glued k_Shown, putf_glued, upd_upd]
  exact k _ B2.put
theorem cut_head (t : Tx) : cutS (S t) none (some (((S t).length : Int) - ((S (tailL t)).length : Int))) = S (headL t) := by
  have h := tail_len t
  have e : ((S t).length : Int) - ((S (tailL t)).length : Int) = ((headL t).length : Int) := by
    rw [S_len, S_len]
    omega
  rw [e, cutS_S, cutL_to]
  have e9 : (headL t ++ tailL t).take (headL t).length = headL t := List.take_left
  rw [head_tail] at e9
  rw [e9]
def sp_last_word (C : Addr) : Sp := fun vs H Q _ => ∃ (p dx : Addr) (s : Sh) (G : Hp), vs = [.ref p] ∧ Pg C p dx s G H ∧ shOk 60000 s ∧ Q (.str (S (tailL s.line))) H
abbrev s_Shown_last_word : Stmt := (inClass (top 8) 3)
theorem sc_Shown_last_word : FnScope ["self", "begin"] ["self"] (defScope s_Shown_last_word) := ⟨rfl, rfl, rfl, by decide +kernel, rfl, by decide +kernel, by decide +kernel⟩

theorem ok_Shown_last_word {f : Addr} {fd : FuncData} (F : FunM K "last_word" "Shown.last_word" s_Shown_last_word f fd) (b_len : mg "len" = none) (g_LETTERS_showing : ∃ u, mg "LETTERS_showing" = some u ∧ RelV (.str (S [97, 98, 99, 100, 101, 102, 103, 104, 105, 106, 107, 108, 109, 110, 111, 112, 113, 114, 115, 116, 117, 118, 119, 120, 121, 122])) u) (k_Shown : K_Shown K C_Shown) : FnOk P w K mg base CX0 1 f fd ["self"] (sp_last_word C_Shown) := by
  refine F.ok sc_Shown_last_word (fun vs H Q E h => ?_) (fun cdv A outer s H vs Q E hr h => ?_)
  · obtain ⟨p, dx, s, G, rfl, _⟩ := h
    rfl
  obtain ⟨p, dx, sh, G, rfl, B, hs, k⟩ := h
  refine ⟨_, PSs.nox (pss_cons (ps_set (i := 1) sc_Shown_last_word.nd rfl (.inl rfl) (pe_callB call_len_str (by rfl) b_len PySem.boot_len (pa_cons (pe_fld (pv 0) rfl) pa_nil)))
  (pss_cons (ps_while PassesOwn.never (PW.pt (pw_and (pt_cmpR op_gt (pv 1) pe_int (nomark _)) (pw_and1 (pt_cmpR op_in_sign (pe_lower (pe_ix ix_str (pe_fld (pv 0) rfl) (pe_op op_sub (pv 1) pe_int) (fun _ _ => rfl))) (pe_gc (by rfl) g_LETTERS_showing) rfl))))
    (pss_one (ps_set (i := 1) sc_Shown_last_word.nd rfl (.inl rfl) (pe_op op_sub (pv 1) pe_int))))
  (pss_one (ps_ret (pe_slice sl_str (pe_fld (pv 0) rfl) (po_some (pv 1)) po_none))))), ?_⟩
  have hp := B.at
  simp only [tSeq, tAsg, tAnd, tOr, tNot, tTest, tB, tOp, tUn, tCB, tCons, tNil, tVar, tC, gName, rI0, rI, rU, rEq, rNe, rIxS, rIxL, rIxT, tRet, tRetN, tTup, tLst, tSl, tPart, tNoPart, rSlS, tIf, tNext, tDrop, tCall, tBM, tBM0, tAndV, tOrV, tNotV, tM0, tM1, gSub, rSetL, sFld, gCons_eq, gNil_eq, tDGet, sDPut, tMeth, tMake, tFld, tChain, tIsN, tNotN,
  List.set_cons_zero, List.set_cons_succ, exists_eq_left', exists_eq_left, exists_eq, V.int.injEq, V.str.injEq, V.bl.injEq, V.ref.injEq, List.cons.injEq, and_true, true_and, List.getElem?_cons_zero, List.getElem?_cons_succ, Option.some.injEq, List.append_nil, exists_and_left, cxOf_K, false_and, and_false, exists_false, false_or, or_false, exists_eq', exists_const, sg_eq, S_eq, S_toList, S_ne, tFor_eq, tLc_eq, iList_eq, iTup_eq, iRng1_eq, iStr_eq, decide_eq_true_eq, Bool.not_eq_true', decide_eq_false_iff_not, if_true, if_false, Bool.false_eq_true, reduceCtorEq, Bool.true_eq_false, decide_true, decide_false, true_and, start1_2, rd_line k_Shown hp]
  obtain ⟨ln, td, sz, gl⟩ := sh
  have hs1 : asc ln := hs.1
  have hs2 : ln.length ≤ 60000 := hs.2
  have z : (S ln).length ≤ 60000 := by rw [S_len]; exact hs2
  refine ⟨Nat.le_trans z (by decide), ?_⟩
  refine loop_whileP (fun m σ H' => H' = H ∧ σ = [some (.ref p), some (.int (m : Int))] ∧ m ≤ ln.length ∧ ∀ c ∈ ln.drop m, letr c = true) (S ln).length ⟨rfl, rfl, by rw [S_len]; exact Nat.le_refl _, fun c hc => by rw [S_len, List.drop_length] at hc; cases hc⟩ ?_
  rintro m σ _ ⟨rfl, rfl, hm, hc⟩
  match m, hm, hc with
  | 0, hm, hc =>
    refine ⟨false, fun R r => ?_, ?_⟩
    · simp only [tSeq, tAsg, tAnd, tOr, tNot, tTest, tB, tOp, tUn, tCB, tCons, tNil, tVar, tC, gName, rI0, rI, rU, rEq, rNe, rIxS, rIxL, rIxT, tRet, tRetN, tTup, tLst, tSl, tPart, tNoPart, rSlS, tIf, tIfS, tNext, tDrop, tCall, tBM, tBM0, tAndV, tOrV, tNotV, tM0, tM1, gSub, rSetL, sFld, gCons_eq, gNil_eq, tDGet, sDPut, tMeth, tMake, tFld, tChain, tIsN, tNotN,
  List.set_cons_zero, List.set_cons_succ, exists_eq_left', exists_eq_left, exists_eq, V.int.injEq, V.str.injEq, V.bl.injEq, V.ref.injEq, List.cons.injEq, and_true, true_and, List.getElem?_cons_zero, List.getElem?_cons_succ, Option.some.injEq, List.append_nil, exists_and_left, cxOf_K, false_and, and_false, exists_false, false_or, or_false, exists_eq', exists_const, sg_eq, S_eq, S_toList, S_ne, tFor_eq, tLc_eq, iList_eq, iTup_eq, iRng1_eq, iStr_eq, decide_eq_true_eq, Bool.not_eq_true', decide_eq_false_iff_not, if_true, if_false, Bool.false_eq_true, reduceCtorEq, Bool.true_eq_false, decide_true, decide_false, rd_line k_Shown hp]
      exact r
    · simp only [tSeq, tAsg, tAnd, tOr, tNot, tTest, tB, tOp, tUn, tCB, tCons, tNil, tVar, tC, gName, rI0, rI, rU, rEq, rNe, rIxS, rIxL, rIxT, tRet, tRetN, tTup, tLst, tSl, tPart, tNoPart, rSlS, tIf, tIfS, tNext, tDrop, tCall, tBM, tBM0, tAndV, tOrV, tNotV, tM0, tM1, gSub, rSetL, sFld, gCons_eq, gNil_eq, tDGet, sDPut, tMeth, tMake, tFld, tChain, tIsN, tNotN,
  List.set_cons_zero, List.set_cons_succ, exists_eq_left', exists_eq_left, exists_eq, V.int.injEq, V.str.injEq, V.bl.injEq, V.ref.injEq, List.cons.injEq, and_true, true_and, List.getElem?_cons_zero, List.getElem?_cons_succ, Option.some.injEq, List.append_nil, exists_and_left, cxOf_K, false_and, and_false, exists_false, false_or, or_false, exists_eq', exists_const, sg_eq, S_eq, S_toList, S_ne, tFor_eq, tLc_eq, iList_eq, iTup_eq, iRng1_eq, iStr_eq, decide_eq_true_eq, Bool.not_eq_true', decide_eq_false_iff_not, if_true, if_false, Bool.false_eq_true, reduceCtorEq, Bool.true_eq_false, decide_true, decide_false, rd_line k_Shown hp, if_false, Bool.false_eq_true]
      have e := split_at (a := []) (b := ln) hc (.inl rfl)
      have c0 : cutS (S ln) (some ((0 : Nat) : Int)) none = S ln := by
        rw [cutS_S, cutL_from]
        rfl
      rw [c0]
      rw [List.nil_append] at e
      have k2 : Q (.str (S (tailL ln))) _ := k
      rw [e.2] at k2
      exact ⟨size_le (by omega), k2⟩
  | m + 1, hm, hc =>
    have hlt : m < ln.length := hm
    have e0 : ((m + 1 : Nat) : Int) - 1 = (m : Int) := by omega
    have hx : ln[m] < 128 := hs1 _ (List.getElem_mem hlt)
    have elo : Txt.lower (S [ln[m]]) = S [PyProof.Rows.lo1 ln[m]] := lower_lo fun x hx => by
      rw [List.mem_singleton.mp hx]
      exact hs1 _ (List.getElem_mem hlt)
    refine ⟨letr ln[m], fun R r => ?_, ?_⟩
    · simp only [tSeq, tAsg, tAnd, tOr, tNot, tTest, tB, tOp, tUn, tCB, tCons, tNil, tVar, tC, gName, rI0, rI, rU, rEq, rNe, rIxS, rIxL, rIxT, tRet, tRetN, tTup, tLst, tSl, tPart, tNoPart, rSlS, tIf, tIfS, tNext, tDrop, tCall, tBM, tBM0, tAndV, tOrV, tNotV, tM0, tM1, gSub, rSetL, sFld, gCons_eq, gNil_eq, tDGet, sDPut, tMeth, tMake, tFld, tChain, tIsN, tNotN,
  List.set_cons_zero, List.set_cons_succ, exists_eq_left', exists_eq_left, exists_eq, V.int.injEq, V.str.injEq, V.bl.injEq, V.ref.injEq, List.cons.injEq, and_true, true_and, List.getElem?_cons_zero, List.getElem?_cons_succ, Option.some.injEq, List.append_nil, exists_and_left, cxOf_K, false_and, and_false, exists_false, false_or, or_false, exists_eq', exists_const, sg_eq, S_eq, S_toList, S_ne, tFor_eq, tLc_eq, iList_eq, iTup_eq, iRng1_eq, iStr_eq, decide_eq_true_eq, Bool.not_eq_true', decide_eq_false_iff_not, if_true, if_false, Bool.false_eq_true, reduceCtorEq, Bool.true_eq_false, decide_true, decide_false, rd_line k_Shown hp, e0]
      rw [if_pos (by omega)]
      refine ⟨size_le (by omega), _, atI_nat (List.getElem?_eq_getElem hlt), Nat.le_trans (by rw [S_len]; simp : (S [ln[m]]).length ≤ 1) (by decide), _, elo, ?_⟩
      have e2 : decide (PyProof.Rows.lo1 ln[m] ∈ [97, 98, 99, 100, 101, 102, 103, 104, 105, 106, 107, 108, 109, 110, 111, 112, 113, 114, 115, 116, 117, 118, 119, 120, 121, 122]) = letr ln[m] := by
        rw [Bool.eq_iff_iff, decide_eq_true_eq]
        exact small_mem _
      rw [e2]
      exact r
    · cases hl : letr ln[m] with
      | true =>
        simp only [if_true, tSeq, tAsg, tAnd, tOr, tNot, tTest, tB, tOp, tUn, tCB, tCons, tNil, tVar, tC, gName, rI0, rI, rU, rEq, rNe, rIxS, rIxL, rIxT, tRet, tRetN, tTup, tLst, tSl, tPart, tNoPart, rSlS, tIf, tIfS, tNext, tDrop, tCall, tBM, tBM0, tAndV, tOrV, tNotV, tM0, tM1, gSub, rSetL, sFld, gCons_eq, gNil_eq, tDGet, sDPut, tMeth, tMake, tFld, tChain, tIsN, tNotN,
  List.set_cons_zero, List.set_cons_succ, exists_eq_left', exists_eq_left, exists_eq, V.int.injEq, V.str.injEq, V.bl.injEq, V.ref.injEq, List.cons.injEq, and_true, true_and, List.getElem?_cons_zero, List.getElem?_cons_succ, Option.some.injEq, List.append_nil, exists_and_left, cxOf_K, false_and, and_false, exists_false, false_or, or_false, exists_eq', exists_const, sg_eq, S_eq, S_toList, S_ne, tFor_eq, tLc_eq, iList_eq, iTup_eq, iRng1_eq, iStr_eq, decide_eq_true_eq, Bool.not_eq_true', decide_eq_false_iff_not, if_true, if_false, Bool.false_eq_true, reduceCtorEq, Bool.true_eq_false, decide_true, decide_false, e0]
        refine ⟨m, by omega, by omega, by omega, fun c h => ?_⟩
        rw [List.drop_eq_getElem_cons hlt] at h
        rcases List.mem_cons.mp h with h | h
        · rw [h]
          exact hl
        · exact hc c h
      | false =>
        simp only [if_false, Bool.false_eq_true, tSeq, tAsg, tAnd, tOr, tNot, tTest, tB, tOp, tUn, tCB, tCons, tNil, tVar, tC, gName, rI0, rI, rU, rEq, rNe, rIxS, rIxL, rIxT, tRet, tRetN, tTup, tLst, tSl, tPart, tNoPart, rSlS, tIf, tIfS, tNext, tDrop, tCall, tBM, tBM0, tAndV, tOrV, tNotV, tM0, tM1, gSub, rSetL, sFld, gCons_eq, gNil_eq, tDGet, sDPut, tMeth, tMake, tFld, tChain, tIsN, tNotN,
  List.set_cons_zero, List.set_cons_succ, exists_eq_left', exists_eq_left, exists_eq, V.int.injEq, V.str.injEq, V.bl.injEq, V.ref.injEq, List.cons.injEq, and_true, true_and, List.getElem?_cons_zero, List.getElem?_cons_succ, Option.some.injEq, List.append_nil, exists_and_left, cxOf_K, false_and, and_false, exists_false, false_or, or_false, exists_eq', exists_const, sg_eq, S_eq, S_toList, S_ne, tFor_eq, tLc_eq, iList_eq, iTup_eq, iRng1_eq, iStr_eq, decide_eq_true_eq, Bool.not_eq_true', decide_eq_false_iff_not, if_true, if_false, Bool.false_eq_true, reduceCtorEq, Bool.true_eq_false, decide_true, decide_false, rd_line k_Shown hp]
        have c0 : cutS (S ln) (some ((m + 1 : Nat) : Int)) none = S (ln.drop (m + 1)) := by
          rw [cutS_S, cutL_from]
        rw [c0]
        have e := split_at (a := ln.take (m + 1)) (b := ln.drop (m + 1)) hc (.inr ⟨ln.take m, ln[m], by rw [List.take_succ_eq_append_getElem hlt], hl⟩)
        rw [List.take_append_drop] at e
        have k2 : Q (.str (S (tailL ln))) _ := k
        rw [e.2] at k2
        exact ⟨size_le (by omega), k2⟩
def sp_ended (C : Addr) : Sp := fun vs H Q _ => ∃ (p dx : Addr) (s : Sh) (G : Hp) (w : Tx), vs = [.ref p, .str (S w)] ∧ Pg C p dx s G H ∧ shOk 50000 s ∧ 1 ≤ w.length ∧ w.length ≤ 70 ∧ ∀ H', Pg C p dx (endS s w) G H' → Q .non H'
abbrev s_Shown_ended : Stmt := (inClass (top 8) 4)
theorem sc_Shown_ended : FnScope ["self", "ending", "word"] ["self", "ending"] (defScope s_Shown_ended) := ⟨rfl, rfl, rfl, by decide +kernel, rfl, by decide +kernel, by decide +kernel⟩

theorem ok_Shown_ended {f : Addr} {fd : FuncData} (F : FunM K "ended" "Shown.ended" s_Shown_ended f fd) (b_len : mg "len" = none) (g_LETTERS_showing : ∃ u, mg "LETTERS_showing" = some u ∧ RelV (.str (S [97, 98, 99, 100, 101, 102, 103, 104, 105, 106, 107, 108, 109, 110, 111, 112, 113, 114, 115, 116, 117, 118, 119, 120, 121, 122])) u) (k_Shown : K_Shown K C_Shown) (c_Shown_last_word : Met P w K mg base CX0 1 C_Shown "last_word" (sp_last_word C_Shown)) (c_joined : Cal P w K mg base CX0 3 "joined" sp_joined) : FnOk P w K mg base CX0 4 f fd ["self", "ending"] (sp_ended C_Shown) := by
  refine F.ok sc_Shown_ended (fun vs H Q E h => ?_) (fun cdv A outer s H vs Q E hr h => ?_)
  · obtain ⟨p, dx, s, G, w, rfl, _⟩ := h
    rfl
  obtain ⟨p, dx, sh, G, w, rfl, B, hs, h1, hl, k⟩ := h
  refine ⟨_, PSs.nox (pss_cons (ps_set (i := 2) sc_Shown_ended.nd rfl (.inl rfl) (pe_mt0 c_Shown_last_word hr (by decide) (pv 0)))
  (pss_cons (ps_if (PW.pt (pw_and (pt_cmpR op_ne (pv 2) pe_str (nomark _)) (pw_and1 (pt_cmpR op_in_sign (pe_ix ix_str (pv 1) pe_int (fun _ _ => rfl)) (pe_gc (by rfl) g_LETTERS_showing) rfl))))
    (pss_one (ps_fld (pv 0) (pe_op op_add_str (pe_slice sl_str (pe_fld (pv 0) rfl) po_none (po_some (pe_op op_sub (pe_callB call_len_str (by rfl) b_len PySem.boot_len (pa_cons (pe_fld (pv 0) rfl) pa_nil)) (pe_callB call_len_str (by rfl) b_len PySem.boot_len (pa_cons (pv 2) pa_nil))))) (pe_c c_joined hr (by first | decide | omega) (by rfl) (pa_cons (pv 2) (pa_cons (pv 1) pa_nil)))) rfl))
    (pss_one (ps_fld (pv 0) (pe_op op_add_str (pe_fld (pv 0) rfl) (pv 1)) rfl)))
  (pss_cons (ps_fld (pv 0) pe_bl rfl)
  (pss_one (ps_fld (pv 0) pe_bl rfl))))), ?_⟩
  have hp := B.at
  simp only [tSeq, tAsg, tAnd, tOr, tNot, tTest, tB, tOp, tUn, tCB, tCons, tNil, tVar, tC, gName, rI0, rI, rU, rEq, rNe, rIxS, rIxL, rIxT, tRet, tRetN, tTup, tLst, tSl, tPart, tNoPart, rSlS, tIf, tNext, tDrop, tCall, tBM, tBM0, tAndV, tOrV, tNotV, tM0, tM1, gSub, rSetL, sFld, gCons_eq, gNil_eq, tDGet, sDPut, tMeth, tMake, tFld, tChain, tIsN, tNotN,
  List.set_cons_zero, List.set_cons_succ, exists_eq_left', exists_eq_left, exists_eq, V.int.injEq, V.str.injEq, V.bl.injEq, V.ref.injEq, List.cons.injEq, and_true, true_and, List.getElem?_cons_zero, List.getElem?_cons_succ, Option.some.injEq, List.append_nil, exists_and_left, cxOf_K, false_and, and_false, exists_false, false_or, or_false, exists_eq', exists_const, sg_eq, S_eq, S_toList, S_ne, tFor_eq, tLc_eq, iList_eq, iTup_eq, iRng1_eq, iStr_eq, decide_eq_true_eq, Bool.not_eq_true', decide_eq_false_iff_not, if_true, if_false, Bool.false_eq_true, reduceCtorEq, Bool.true_eq_false, decide_true, decide_false, lit_, start2_3]
  have tn := tail_len sh.line
  have hs2 := hs.2
  refine ⟨_, _, hp, rfl, p, dx, _, G, rfl, B, hs.mono (by decide), ?_⟩
  match w, h1, hl with
  | f :: r, h1, hl =>
  rw [List.length_cons] at hl
  refine if_fin (fun σ' H' => σ' = [some (.ref p), some (.str (S (f :: r))), some (.str (S (tailL sh.line)))] ∧ Pg C_Shown p dx { sh with line := (endS sh (f :: r)).line } G H') ?_ ?_
  rotate_left
  · intro nx fin
    refine if_pure (!(tailL sh.line).isEmpty && small f) (fun R q => ?_) (fun e => ?_) (fun e => ?_)
    · simp only [tSeq, tAsg, tAnd, tOr, tNot, tTest, tB, tOp, tUn, tCB, tCons, tNil, tVar, tC, gName, rI0, rI, rU, rEq, rNe, rIxS, rIxL, rIxT, tRet, tRetN, tTup, tLst, tSl, tPart, tNoPart, rSlS, tIf, tIfS, tNext, tDrop, tCall, tBM, tBM0, tAndV, tOrV, tNotV, tM0, tM1, gSub, rSetL, sFld, gCons_eq, gNil_eq, tDGet, sDPut, tMeth, tMake, tFld, tChain, tIsN, tNotN,
  List.set_cons_zero, List.set_cons_succ, exists_eq_left', exists_eq_left, exists_eq, V.int.injEq, V.str.injEq, V.bl.injEq, V.ref.injEq, List.cons.injEq, and_true, true_and, List.getElem?_cons_zero, List.getElem?_cons_succ, Option.some.injEq, List.append_nil, exists_and_left, cxOf_K, false_and, and_false, exists_false, false_or, or_false, exists_eq', exists_const, sg_eq, S_eq, S_toList, S_ne, tFor_eq, tLc_eq, iList_eq, iTup_eq, iRng1_eq, iStr_eq, decide_eq_true_eq, Bool.not_eq_true', decide_eq_false_iff_not, if_true, if_false, Bool.false_eq_true, reduceCtorEq, Bool.true_eq_false, decide_true, decide_false, small_mem]
      refine ⟨rfl, ?_⟩
      cases ht : tailL sh.line with
      | nil =>
        rw [ht] at q
        simp only [not_true_eq_false, if_false]
        exact q
      | cons x y =>
        rw [ht] at q
        rw [if_pos (by simp)]
        refine ⟨(size_le (by (try simp only [S_len, List.length_append, List.length_cons, List.length_nil]); omega)), _, atI_nat (j := 0) rfl, ?_⟩
        have e2 : decide (small f = true) = small f := by cases small f <;> rfl
        rw [e2]
        exact q
    · rw [Bool.and_eq_true] at e
      obtain ⟨u, d, hu⟩ : ∃ u d, tailL sh.line = u ++ [d] := by
        rcases List.eq_nil_or_concat (tailL sh.line) with h | ⟨u, d, h⟩
        · rw [h] at e
          exact absurd e.1 (by decide)
        · exact ⟨u, d, h.trans List.concat_eq_append⟩
      have hc := tail_letr sh.line
      have hul := tn
      rw [hu, List.length_append, List.length_singleton] at hul
      rw [hu] at hc
      have jp : jPre u d f r := ⟨by omega, by omega, fun c h => hc c (List.mem_append_left _ h), hc d (List.mem_append_right _ List.mem_cons_self), e.2⟩
      simp only [tSeq, tAsg, tAnd, tOr, tNot, tTest, tB, tOp, tUn, tCB, tCons, tNil, tVar, tC, gName, rI0, rI, rU, rEq, rNe, rIxS, rIxL, rIxT, tRet, tRetN, tTup, tLst, tSl, tPart, tNoPart, rSlS, tIf, tIfS, tNext, tDrop, tCall, tBM, tBM0, tAndV, tOrV, tNotV, tM0, tM1, gSub, rSetL, sFld, gCons_eq, gNil_eq, tDGet, sDPut, tMeth, tMake, tFld, tChain, tIsN, tNotN,
  List.set_cons_zero, List.set_cons_succ, exists_eq_left', exists_eq_left, exists_eq, V.int.injEq, V.str.injEq, V.bl.injEq, V.ref.injEq, List.cons.injEq, and_true, true_and, List.getElem?_cons_zero, List.getElem?_cons_succ, Option.some.injEq, List.append_nil, exists_and_left, cxOf_K, false_and, and_false, exists_false, false_or, or_false, exists_eq', exists_const, sg_eq, S_eq, S_toList, S_ne, tFor_eq, tLc_eq, iList_eq, iTup_eq, iRng1_eq, iStr_eq, decide_eq_true_eq, Bool.not_eq_true', decide_eq_false_iff_not, if_true, if_false, Bool.false_eq_true, reduceCtorEq, Bool.true_eq_false, decide_true, decide_false, rd_line k_Shown hp, cut_head]
      refine ⟨size_le (by rw [S_len]; omega), size_le (by rw [S_len]; omega), size_le (by rw [S_len]; omega), u, d, f, r, by rw [hu], jp, fun H1 s1 => ⟨_, rfl, ?_, ?_⟩⟩
      · have := jo_len u d f r
        exact size_le (by rw [S_len, S_len]; omega)
      have B1 := B.same s1
      simp only [S_cat, wr_line k_Shown B1.at, putf_line]
      refine fin _ _ ⟨rfl, ?_⟩
      have e3 : (endS sh (f :: r)).line = headL sh.line ++ jo u d f r := by
        have e4 : (endS sh (f :: r)).line = if !(tailL sh.line).isEmpty && small f then headL sh.line ++ joinW (tailL sh.line) (f :: r) else sh.line ++ f :: r := rfl
        rw [e4, if_pos (by rw [Bool.and_eq_true]; exact e), hu, joinW_eq]
      rw [e3]
      exact B1.put
    · simp only [tSeq, tAsg, tAnd, tOr, tNot, tTest, tB, tOp, tUn, tCB, tCons, tNil, tVar, tC, gName, rI0, rI, rU, rEq, rNe, rIxS, rIxL, rIxT, tRet, tRetN, tTup, tLst, tSl, tPart, tNoPart, rSlS, tIf, tIfS, tNext, tDrop, tCall, tBM, tBM0, tAndV, tOrV, tNotV, tM0, tM1, gSub, rSetL, sFld, gCons_eq, gNil_eq, tDGet, sDPut, tMeth, tMake, tFld, tChain, tIsN, tNotN,
  List.set_cons_zero, List.set_cons_succ, exists_eq_left', exists_eq_left, exists_eq, V.int.injEq, V.str.injEq, V.bl.injEq, V.ref.injEq, List.cons.injEq, and_true, true_and, List.getElem?_cons_zero, List.getElem?_cons_succ, Option.some.injEq, List.append_nil, exists_and_left, cxOf_K, false_and, and_false, exists_false, false_or, or_false, exists_eq', exists_const, sg_eq, S_eq, S_toList, S_ne, tFor_eq, tLc_eq, iList_eq, iTup_eq, iRng1_eq, iStr_eq, decide_eq_true_eq, Bool.not_eq_true', decide_eq_false_iff_not, if_true, if_false, Bool.false_eq_true, reduceCtorEq, Bool.true_eq_false, decide_true, decide_false, rd_line k_Shown hp, S_cat, wr_line k_Shown hp, putf_line]
      refine ⟨size_le (by rw [S_len, S_len, List.length_cons]; omega), fin _ _ ⟨rfl, ?_⟩⟩
      have e3 : (endS sh (f :: r)).line = sh.line ++ f :: r := by
        have e4 : (endS sh (f :: r)).line = if !(tailL sh.line).isEmpty && small f then headL sh.line ++ joinW (tailL sh.line) (f :: r) else sh.line ++ f :: r := rfl
        rw [e4, if_neg (by rw [e]; decide)]
      rw [e3]
      exact B.put
  rintro _ H1 ⟨rfl, B1⟩
  simp only [tSeq, tAsg, tAnd, tOr, tNot, tTest, tB, tOp, tUn, tCB, tCons, tNil, tVar, tC, gName, rI0, rI, rU, rEq, rNe, rIxS, rIxL, rIxT, tRet, tRetN, tTup, tLst, tSl, tPart, tNoPart, rSlS, tIf, tIfS, tNext, tDrop, tCall, tBM, tBM0, tAndV, tOrV, tNotV, tM0, tM1, gSub, rSetL, sFld, gCons_eq, gNil_eq, tDGet, sDPut, tMeth, tMake, tFld, tChain, tIsN, tNotN,
  List.set_cons_zero, List.set_cons_succ, exists_eq_left', exists_eq_left, exists_eq, V.int.injEq, V.str.injEq, V.bl.injEq, V.ref.injEq, List.cons.injEq, and_true, true_and, List.getElem?_cons_zero, List.getElem?_cons_succ, Option.some.injEq, List.append_nil, exists_and_left, cxOf_K, false_and, and_false, exists_false, false_or, or_false, exists_eq', exists_const, sg_eq, S_eq, S_toList, S_ne, tFor_eq, tLc_eq, iList_eq, iTup_eq, iRng1_eq, iStr_eq, decide_eq_true_eq, Bool.not_eq_true', decide_eq_false_iff_not, if_true, if_false, Bool.false_eq_true, reduceCtorEq, Bool.true_eq_false, decide_true, decide_false, wr_tied k_Shown B1.at, putf_tied, wu_glued k_Shown, putf_glued, upd_upd]
  exact k _ B1.put
def sp_join (C : Addr) : Sp := fun vs H Q _ => ∃ (p dx : Addr) (s : Sh) (G : Hp) (w : Tx) (l r : Bool), vs = [.ref p, .str (S w), .bl l, .bl r] ∧ Pg C p dx s G H ∧ shOk 50000 s ∧ asc w ∧ w.length ≤ 70 ∧ ∀ H', Pg C p dx (joinS s w l r) G H' → Q .non H'
abbrev s_Shown_join : Stmt := (inClass (top 8) 5)
theorem sc_Shown_join : FnScope ["self", "word", "left", "right"] ["self", "word", "left", "right"] (defScope s_Shown_join) := ⟨rfl, rfl, rfl, by decide +kernel, rfl, by decide +kernel, by decide +kernel⟩

theorem ok_Shown_join {f : Addr} {fd : FuncData} (F : FunM K "join" "Shown.join" s_Shown_join f fd) (k_Shown : K_Shown K C_Shown) (c_Shown_ended : Met P w K mg base CX0 4 C_Shown "ended" (sp_ended C_Shown)) (c_Shown_put : Met P w K mg base CX0 2 C_Shown "put" (sp_put C_Shown)) : FnOk P w K mg base CX0 5 f fd ["self", "word", "left", "right"] (sp_join C_Shown) := by
  refine F.ok sc_Shown_join (fun vs H Q E h => ?_) (fun cdv A outer s H vs Q E hr h => ?_)
  · obtain ⟨p, dx, s, G, w, l, r, rfl, _⟩ := h
    rfl
  obtain ⟨p, dx, sh, G, w, l, r, rfl, B, hs, hw, hl, k⟩ := h
  refine ⟨_, PSs.nox (pss_cons (ps_if (PW.pt (pw_and (pt_cmpR op_ne (pv 1) pe_str (nomark _)) (pw_and1 (pt_val (pv 2)))))
    (pss_one (ps_expr (pe_mt c_Shown_ended hr (by decide) (pv 0) (pa_cons (pv 1) pa_nil))))
    (pss_one (ps_if (pt_cmpR op_ne (pv 1) pe_str (nomark _))
    (pss_one (ps_expr (pe_mt c_Shown_put hr (by decide) (pv 0) (pa_cons (pv 1) (pa_cons pe_bl pa_nil)))))
    pss_nil)))
  (pss_cons (ps_fld (pv 0) (pv 3) rfl)
  (pss_one (ps_fld (pv 0) pe_bl rfl)))), ?_⟩
  have hp := B.at
  simp only [tSeq, tAsg, tAnd, tOr, tNot, tTest, tB, tOp, tUn, tCB, tCons, tNil, tVar, tC, gName, rI0, rI, rU, rEq, rNe, rIxS, rIxL, rIxT, tRet, tRetN, tTup, tLst, tSl, tPart, tNoPart, rSlS, tIf, tNext, tDrop, tCall, tBM, tBM0, tAndV, tOrV, tNotV, tM0, tM1, gSub, rSetL, sFld, gCons_eq, gNil_eq, tDGet, sDPut, tMeth, tMake, tFld, tChain, tIsN, tNotN,
  List.set_cons_zero, List.set_cons_succ, exists_eq_left', exists_eq_left, exists_eq, V.int.injEq, V.str.injEq, V.bl.injEq, V.ref.injEq, List.cons.injEq, and_true, true_and, List.getElem?_cons_zero, List.getElem?_cons_succ, Option.some.injEq, List.append_nil, exists_and_left, cxOf_K, false_and, and_false, exists_false, false_or, or_false, exists_eq', exists_const, sg_eq, S_eq, S_toList, S_ne, tFor_eq, tLc_eq, iList_eq, iTup_eq, iRng1_eq, iStr_eq, decide_eq_true_eq, Bool.not_eq_true', decide_eq_false_iff_not, if_true, if_false, Bool.false_eq_true, reduceCtorEq, Bool.true_eq_false, decide_true, decide_false, lit_, start4_4]
  refine if_fin (fun σ' H' => σ' = [some (.ref p), some (.str (S w)), some (.bl l), some (.bl r)] ∧ Pg C_Shown p dx (if w.isEmpty then sh else if l then endS sh w else putS sh w false) G H') ?_ ?_
  rotate_left
  · intro nx fin
    simp only [tSeq, tAsg, tAnd, tOr, tNot, tTest, tB, tOp, tUn, tCB, tCons, tNil, tVar, tC, gName, rI0, rI, rU, rEq, rNe, rIxS, rIxL, rIxT, tRet, tRetN, tTup, tLst, tSl, tPart, tNoPart, rSlS, tIf, tIfS, tNext, tDrop, tCall, tBM, tBM0, tAndV, tOrV, tNotV, tM0, tM1, gSub, rSetL, sFld, gCons_eq, gNil_eq, tDGet, sDPut, tMeth, tMake, tFld, tChain, tIsN, tNotN,
  List.set_cons_zero, List.set_cons_succ, exists_eq_left', exists_eq_left, exists_eq, V.int.injEq, V.str.injEq, V.bl.injEq, V.ref.injEq, List.cons.injEq, and_true, true_and, List.getElem?_cons_zero, List.getElem?_cons_succ, Option.some.injEq, List.append_nil, exists_and_left, cxOf_K, false_and, and_false, exists_false, false_or, or_false, exists_eq', exists_const, sg_eq, S_eq, S_toList, S_ne, tFor_eq, tLc_eq, iList_eq, iTup_eq, iRng1_eq, iStr_eq, decide_eq_true_eq, Bool.not_eq_true', decide_eq_false_iff_not, if_true, if_false, Bool.false_eq_true, reduceCtorEq, Bool.true_eq_false, decide_true, decide_false]
    cases w with
    | nil =>
      simp only [not_true_eq_false, if_false]
      exact ⟨rfl, rfl, fin _ _ ⟨rfl, B⟩⟩
    | cons x t =>
      have h1 : ¬ (x :: t = []) := fun z => nomatch z
      simp only [h1, not_false_eq_true, if_true]
      cases l with
      | true =>
        simp only [if_true]
        exact ⟨rfl, _, _, hp, rfl, p, dx, sh, G, _, rfl, B, hs, by rw [List.length_cons]; omega, hl, fun H1 B1 => fin _ _ ⟨rfl, B1⟩⟩
      | false =>
        simp only [Bool.false_eq_true, if_false]
        exact ⟨rfl, rfl, _, _, hp, rfl, p, dx, sh, G, _, _, rfl, B, hs.mono (by decide), hw, hl, fun H1 B1 => fin _ _ ⟨rfl, B1⟩⟩
  rintro _ H1 ⟨rfl, B1⟩
  simp only [tSeq, tAsg, tAnd, tOr, tNot, tTest, tB, tOp, tUn, tCB, tCons, tNil, tVar, tC, gName, rI0, rI, rU, rEq, rNe, rIxS, rIxL, rIxT, tRet, tRetN, tTup, tLst, tSl, tPart, tNoPart, rSlS, tIf, tIfS, tNext, tDrop, tCall, tBM, tBM0, tAndV, tOrV, tNotV, tM0, tM1, gSub, rSetL, sFld, gCons_eq, gNil_eq, tDGet, sDPut, tMeth, tMake, tFld, tChain, tIsN, tNotN,
  List.set_cons_zero, List.set_cons_succ, exists_eq_left', exists_eq_left, exists_eq, V.int.injEq, V.str.injEq, V.bl.injEq, V.ref.injEq, List.cons.injEq, and_true, true_and, List.getElem?_cons_zero, List.getElem?_cons_succ, Option.some.injEq, List.append_nil, exists_and_left, cxOf_K, false_and, and_false, exists_false, false_or, or_false, exists_eq', exists_const, sg_eq, S_eq, S_toList, S_ne, tFor_eq, tLc_eq, iList_eq, iTup_eq, iRng1_eq, iStr_eq, decide_eq_true_eq, Bool.not_eq_true', decide_eq_false_iff_not, if_true, if_false, Bool.false_eq_true, reduceCtorEq, Bool.true_eq_false, decide_true, decide_false, wr_tied k_Shown B1.at, putf_tied, wu_glued k_Shown, putf_glued, upd_upd]
  exact k _ B1.put
def sp_great_last (C : Addr) : Sp := fun vs H Q _ => ∃ (p dx : Addr) (s : Sh) (G : Hp), vs = [.ref p] ∧ Pg C p dx s G H ∧ shOk 50000 s ∧ ∀ H', Pg C p dx (lastS s) G H' → Q .non H'
abbrev s_Shown_great_last : Stmt := (inClass (top 8) 6)
theorem sc_Shown_great_last : FnScope ["self", "word"] ["self"] (defScope s_Shown_great_last) := ⟨rfl, rfl, rfl, by decide +kernel, rfl, by decide +kernel, by decide +kernel⟩

theorem ok_Shown_great_last {f : Addr} {fd : FuncData} (F : FunM K "great_last" "Shown.great_last" s_Shown_great_last f fd) (b_len : mg "len" = none) (k_Shown : K_Shown K C_Shown) (c_Shown_last_word : Met P w K mg base CX0 1 C_Shown "last_word" (sp_last_word C_Shown)) : FnOk P w K mg base CX0 2 f fd ["self"] (sp_great_last C_Shown) := by
  refine F.ok sc_Shown_great_last (fun vs H Q E h => ?_) (fun cdv A outer s H vs Q E hr h => ?_)
  · obtain ⟨p, dx, s, G, rfl, _⟩ := h
    rfl
  obtain ⟨p, dx, sh, G, rfl, B, hs, k⟩ := h
  refine ⟨_, PSs.nox (pss_cons (ps_set (i := 1) sc_Shown_great_last.nd rfl (.inl rfl) (pe_mt0 c_Shown_last_word hr (by decide) (pv 0)))
  (pss_one (ps_if (pt_cmpR op_ne (pv 1) pe_str (nomark _))
    (pss_one (ps_fld (pv 0) (pe_op op_add_str (pe_op op_add_str (pe_slice sl_str (pe_fld (pv 0) rfl) po_none (po_some (pe_op op_sub (pe_callB call_len_str (by rfl) b_len PySem.boot_len (pa_cons (pe_fld (pv 0) rfl) pa_nil)) (pe_callB call_len_str (by rfl) b_len PySem.boot_len (pa_cons (pv 1) pa_nil))))) (pe_upper (pe_ix ix_str (pv 1) pe_int (fun _ _ => rfl)))) (pe_slice sl_str (pv 1) (po_some pe_int) po_none)) rfl))
    pss_nil))), ?_⟩
  have hp := B.at
  simp only [tSeq, tAsg, tAnd, tOr, tNot, tTest, tB, tOp, tUn, tCB, tCons, tNil, tVar, tC, gName, rI0, rI, rU, rEq, rNe, rIxS, rIxL, rIxT, tRet, tRetN, tTup, tLst, tSl, tPart, tNoPart, rSlS, tIf, tNext, tDrop, tCall, tBM, tBM0, tAndV, tOrV, tNotV, tM0, tM1, gSub, rSetL, sFld, gCons_eq, gNil_eq, tDGet, sDPut, tMeth, tMake, tFld, tChain, tIsN, tNotN,
  List.set_cons_zero, List.set_cons_succ, exists_eq_left', exists_eq_left, exists_eq, V.int.injEq, V.str.injEq, V.bl.injEq, V.ref.injEq, List.cons.injEq, and_true, true_and, List.getElem?_cons_zero, List.getElem?_cons_succ, Option.some.injEq, List.append_nil, exists_and_left, cxOf_K, false_and, and_false, exists_false, false_or, or_false, exists_eq', exists_const, sg_eq, S_eq, S_toList, S_ne, tFor_eq, tLc_eq, iList_eq, iTup_eq, iRng1_eq, iStr_eq, decide_eq_true_eq, Bool.not_eq_true', decide_eq_false_iff_not, if_true, if_false, Bool.false_eq_true, reduceCtorEq, Bool.true_eq_false, decide_true, decide_false, lit_, start1_2]
  have tn := tail_len sh.line
  have ta := asc_tail hs.1
  have hs2 := hs.2
  have ch := cut_head sh.line
  refine ⟨_, _, hp, rfl, p, dx, _, G, rfl, B, hs.mono (by decide), ?_⟩
  have k2 := fun H' => k H'
  unfold lastS at k2
  cases ht : tailL sh.line with
  | nil =>
    rw [ht] at k2
    simp only [tSeq, tAsg, tAnd, tOr, tNot, tTest, tB, tOp, tUn, tCB, tCons, tNil, tVar, tC, gName, rI0, rI, rU, rEq, rNe, rIxS, rIxL, rIxT, tRet, tRetN, tTup, tLst, tSl, tPart, tNoPart, rSlS, tIf, tIfS, tNext, tDrop, tCall, tBM, tBM0, tAndV, tOrV, tNotV, tM0, tM1, gSub, rSetL, sFld, gCons_eq, gNil_eq, tDGet, sDPut, tMeth, tMake, tFld, tChain, tIsN, tNotN,
  List.set_cons_zero, List.set_cons_succ, exists_eq_left', exists_eq_left, exists_eq, V.int.injEq, V.str.injEq, V.bl.injEq, V.ref.injEq, List.cons.injEq, and_true, true_and, List.getElem?_cons_zero, List.getElem?_cons_succ, Option.some.injEq, List.append_nil, exists_and_left, cxOf_K, false_and, and_false, exists_false, false_or, or_false, exists_eq', exists_const, sg_eq, S_eq, S_toList, S_ne, tFor_eq, tLc_eq, iList_eq, iTup_eq, iRng1_eq, iStr_eq, decide_eq_true_eq, Bool.not_eq_true', decide_eq_false_iff_not, if_true, if_false, Bool.false_eq_true, reduceCtorEq, Bool.true_eq_false, decide_true, decide_false, not_true_eq_false, if_false]
    exact ⟨rfl, k2 _ B⟩
  | cons c r =>
    rw [ht] at k2 ta tn ch
    rw [List.length_cons] at tn
    have h1 : ¬ (c :: r = []) := fun z => nomatch z
    have eu : Txt.upper (S [c]) = S [PyProof.Rows.up1 c] := SX.upper_S (all_asc fun x hx => by
      rw [List.mem_singleton.mp hx]
      exact ta c List.mem_cons_self)
    have c1 : cutS (S (c :: r)) (some 1) none = S r := by
      rw [cutS_S]
      exact congrArg S (cutL_from (c :: r) 1)
    have a0 : atI (c :: r) 0 = some c := atI_nat (j := 0) rfl
    simp only [tSeq, tAsg, tAnd, tOr, tNot, tTest, tB, tOp, tUn, tCB, tCons, tNil, tVar, tC, gName, rI0, rI, rU, rEq, rNe, rIxS, rIxL, rIxT, tRet, tRetN, tTup, tLst, tSl, tPart, tNoPart, rSlS, tIf, tIfS, tNext, tDrop, tCall, tBM, tBM0, tAndV, tOrV, tNotV, tM0, tM1, gSub, rSetL, sFld, gCons_eq, gNil_eq, tDGet, sDPut, tMeth, tMake, tFld, tChain, tIsN, tNotN,
  List.set_cons_zero, List.set_cons_succ, exists_eq_left', exists_eq_left, exists_eq, V.int.injEq, V.str.injEq, V.bl.injEq, V.ref.injEq, List.cons.injEq, and_true, true_and, List.getElem?_cons_zero, List.getElem?_cons_succ, Option.some.injEq, List.append_nil, exists_and_left, cxOf_K, false_and, and_false, exists_false, false_or, or_false, exists_eq', exists_const, sg_eq, S_eq, S_toList, S_ne, tFor_eq, tLc_eq, iList_eq, iTup_eq, iRng1_eq, iStr_eq, decide_eq_true_eq, Bool.not_eq_true', decide_eq_false_iff_not, if_true, if_false, Bool.false_eq_true, reduceCtorEq, Bool.true_eq_false, decide_true, decide_false, h1, not_false_eq_true, rd_line k_Shown hp, ch, a0, eu, c1, S_cat, wr_line k_Shown hp, putf_line]
    refine ⟨rfl, size_le (by rw [S_len]; omega), (size_le (by (try simp only [S_len, List.length_append, List.length_cons, List.length_nil]); omega)), size_le (by rw [S_len]; omega), (size_le (by (try simp only [S_len, List.length_append, List.length_cons, List.length_nil]); omega)), Nat.le_trans (by rw [S_len]; simp : (S [c]).length ≤ 1) (by decide), size_le (by rw [S_len, S_len, List.length_singleton]; omega), (size_le (by (try simp only [S_len, List.length_append, List.length_cons, List.length_nil]); omega)), size_le (by simp only [S_len, List.length_append, List.length_cons, List.length_nil]; omega), ?_⟩
    rw [List.append_assoc]
    exact k2 _ B.put
theorem putf_size (s : Sh) (z : Sz) : putF "size" (.str (S (szT z))) (pf s) = pf { s with size := z } := rfl
def sp_do (K : PySem.W.Frag) (C : Addr) : Sp := fun vs H Q _ => ∃ (p dx : Addr) (s : Sh) (G : Hp) (v : V) (a : Act), vs = [.ref p, v] ∧ Pg C p dx s G H ∧ shOk 50000 s ∧ Dp K G v (actD a) ∧ actOk a ∧ ∀ H', Pg C p dx (doA s a) G H' → Q .non H'
abbrev s_Shown_do : Stmt := (inClass (top 8) 7)
theorem sc_Shown_do : FnScope ["self", "action", "word"] ["self", "action"] (defScope s_Shown_do) := ⟨rfl, rfl, rfl, by decide +kernel, rfl, by decide +kernel, by decide +kernel⟩

theorem ok_Shown_do {f : Addr} {fd : FuncData} (F : FunM K "do" "Shown.do" s_Shown_do f fd) (k_Shown : K_Shown K C_Shown) (c_Shown_put : Met P w K mg base CX0 2 C_Shown "put" (sp_put C_Shown)) (c_Shown_join : Met P w K mg base CX0 5 C_Shown "join" (sp_join C_Shown)) (c_Shown_great_last : Met P w K mg base CX0 2 C_Shown "great_last" (sp_great_last C_Shown)) : FnOk P w K mg base CX0 6 f fd ["self", "action"] (sp_do K C_Shown) := by
  refine F.ok sc_Shown_do (fun vs H Q E h => ?_) (fun cdv A outer s H vs Q E hr h => ?_)
  · obtain ⟨p, dx, s, G, v, a, rfl, _⟩ := h
    rfl
  obtain ⟨p, dx, sh, G, v, a, rfl, B, hs, hd, ha, k⟩ := h
  refine ⟨_, PSs.nox (pss_cons (ps_set (i := 2) sc_Shown_do.nd rfl (.inl rfl) (pe_ix ix_tup (pv 1) pe_int (fun _ _ => rfl)))
  (pss_one (ps_if (pt_cmpR op_eq (pv 2) pe_str (nomark _))
    (pss_one (ps_expr (pe_mt c_Shown_put hr (by decide) (pv 0) (pa_cons (pe_ix ix_tup (pv 1) pe_int (fun _ _ => rfl)) (pa_cons pe_bl pa_nil)))))
    (pss_one (ps_if (pt_cmpR op_eq (pv 2) pe_str (nomark _))
    (pss_cons (ps_expr (pe_mt c_Shown_put hr (by decide) (pv 0) (pa_cons (pe_ix ix_tup (pv 1) pe_int (fun _ _ => rfl)) (pa_cons (pe_fld (pv 0) rfl) pa_nil))))
  (pss_one (ps_fld (pv 0) pe_bl rfl)))
    (pss_one (ps_if (pt_cmpR op_eq (pv 2) pe_str (nomark _))
    (pss_one (ps_expr (pe_mt c_Shown_join hr (by decide) (pv 0) (pa_cons (pe_ix ix_tup (pv 1) pe_int (fun _ _ => rfl)) (pa_cons (pe_ix ix_tup (pv 1) pe_int (fun _ _ => rfl)) (pa_cons (pe_ix ix_tup (pv 1) pe_int (fun _ _ => rfl)) pa_nil))))))
    (pss_one (ps_if (pt_cmpR op_eq (pv 2) pe_str (nomark _))
    (pss_cons (ps_fld (pv 0) (pe_op op_add_str (pe_fld (pv 0) rfl) (pe_ix ix_tup (pv 1) pe_int (fun _ _ => rfl))) rfl)
  (pss_cons (ps_fld (pv 0) pe_bl rfl)
  (pss_cons (ps_fld (pv 0) pe_bl rfl)
  (pss_one (ps_fld (pv 0) (pe_ifExp (pt_cmpR op_in_sign (pe_ix ix_tup (pv 1) pe_int (fun _ _ => rfl)) pe_str rfl) pe_str (pe_fld (pv 0) rfl)) rfl)))))
    (pss_one (ps_if (pt_cmpR op_eq (pv 2) pe_str (nomark _))
    (pss_one (ps_expr (pe_mt0 c_Shown_great_last hr (by decide) (pv 0))))
    (pss_one (ps_if (pt_cmpR op_in_seq (pv 2) (pe_tup (pa_cons pe_str (pa_cons pe_str pa_nil))) (by rfl))
    (pss_one (ps_fld (pv 0) (pv 2) rfl))
    pss_nil))))))))))))), ?_⟩
  have hp := B.at
  simp only [tSeq, tAsg, tAnd, tOr, tNot, tTest, tB, tOp, tUn, tCB, tCons, tNil, tVar, tC, gName, rI0, rI, rU, rEq, rNe, rIxS, rIxL, rIxT, tRet, tRetN, tTup, tLst, tSl, tPart, tNoPart, rSlS, tIf, tNext, tDrop, tCall, tBM, tBM0, tAndV, tOrV, tNotV, tM0, tM1, gSub, rSetL, sFld, gCons_eq, gNil_eq, tDGet, sDPut, tMeth, tMake, tFld, tChain, tIsN, tNotN,
  List.set_cons_zero, List.set_cons_succ, exists_eq_left', exists_eq_left, exists_eq, V.int.injEq, V.str.injEq, V.bl.injEq, V.ref.injEq, List.cons.injEq, and_true, true_and, List.getElem?_cons_zero, List.getElem?_cons_succ, Option.some.injEq, List.append_nil, exists_and_left, cxOf_K, false_and, and_false, exists_false, false_or, or_false, exists_eq', exists_const, sg_eq, S_eq, S_toList, S_ne, tFor_eq, tLc_eq, iList_eq, iTup_eq, iRng1_eq, iStr_eq, decide_eq_true_eq, Bool.not_eq_true', decide_eq_false_iff_not, if_true, if_false, Bool.false_eq_true, reduceCtorEq, Bool.true_eq_false, decide_true, decide_false, lit_119_111_114_100, lit_103_108_117_101, lit_106_111_105_110, lit_115_116_111_112, lit_103_114_101_97_116, lit_108_97_115_116, lit_46_63_33, lit_97_108_108, start2_3]
  have ln2 := hs.2
  cases a with
  | word t =>
    obtain ⟨q, rfl, hq⟩ := dp2 hd
    have ht : wordOk t := ha
    have h16 := ht.2.1
    refine ⟨q, rfl, _, sqt_of hq B.1, _, atI_nat (j := 0) rfl, ?_⟩
    simp only [tSeq, tAsg, tAnd, tOr, tNot, tTest, tB, tOp, tUn, tCB, tCons, tNil, tVar, tC, gName, rI0, rI, rU, rEq, rNe, rIxS, rIxL, rIxT, tRet, tRetN, tTup, tLst, tSl, tPart, tNoPart, rSlS, tIf, tIfS, tNext, tDrop, tCall, tBM, tBM0, tAndV, tOrV, tNotV, tM0, tM1, gSub, rSetL, sFld, gCons_eq, gNil_eq, tDGet, sDPut, tMeth, tMake, tFld, tChain, tIsN, tNotN,
  List.set_cons_zero, List.set_cons_succ, exists_eq_left', exists_eq_left, exists_eq, V.int.injEq, V.str.injEq, V.bl.injEq, V.ref.injEq, List.cons.injEq, and_true, true_and, List.getElem?_cons_zero, List.getElem?_cons_succ, Option.some.injEq, List.append_nil, exists_and_left, cxOf_K, false_and, and_false, exists_false, false_or, or_false, exists_eq', exists_const, sg_eq, S_eq, S_toList, S_ne, tFor_eq, tLc_eq, iList_eq, iTup_eq, iRng1_eq, iStr_eq, decide_eq_true_eq, Bool.not_eq_true', decide_eq_false_iff_not, if_true, if_false, Bool.false_eq_true, reduceCtorEq, Bool.true_eq_false, decide_true, decide_false]
    exact ⟨rfl, _, _, hp, rfl, _, sqt_of hq B.1, _, atI_nat (j := 1) rfl, p, dx, sh, G, t, false, rfl, B, hs.mono (by decide), ht.asc, by omega, fun H1 B1 => k _ B1⟩
  | glue t =>
    obtain ⟨q, rfl, hq⟩ := dp2 hd
    have ht : wordOk t := ha
    have h16 := ht.2.1
    refine ⟨q, rfl, _, sqt_of hq B.1, _, atI_nat (j := 0) rfl, ?_⟩
    simp only [tSeq, tAsg, tAnd, tOr, tNot, tTest, tB, tOp, tUn, tCB, tCons, tNil, tVar, tC, gName, rI0, rI, rU, rEq, rNe, rIxS, rIxL, rIxT, tRet, tRetN, tTup, tLst, tSl, tPart, tNoPart, rSlS, tIf, tIfS, tNext, tDrop, tCall, tBM, tBM0, tAndV, tOrV, tNotV, tM0, tM1, gSub, rSetL, sFld, gCons_eq, gNil_eq, tDGet, sDPut, tMeth, tMake, tFld, tChain, tIsN, tNotN,
  List.set_cons_zero, List.set_cons_succ, exists_eq_left', exists_eq_left, exists_eq, V.int.injEq, V.str.injEq, V.bl.injEq, V.ref.injEq, List.cons.injEq, and_true, true_and, List.getElem?_cons_zero, List.getElem?_cons_succ, Option.some.injEq, List.append_nil, exists_and_left, cxOf_K, false_and, and_false, exists_false, false_or, or_false, exists_eq', exists_const, sg_eq, S_eq, S_toList, S_ne, tFor_eq, tLc_eq, iList_eq, iTup_eq, iRng1_eq, iStr_eq, decide_eq_true_eq, Bool.not_eq_true', decide_eq_false_iff_not, if_true, if_false, Bool.false_eq_true, reduceCtorEq, Bool.true_eq_false, decide_true, decide_false]
    rw [if_neg (by decide)]
    refine ⟨rfl, rfl, _, _, hp, rfl, _, sqt_of hq B.1, _, atI_nat (j := 1) rfl, ?_⟩
    rw [rd_glued k_Shown hp]
    refine ⟨p, dx, sh, G, t, sh.glued, rfl, B, hs.mono (by decide), ht.asc, by omega, fun H1 B1 => ?_⟩
    simp only [wr_glued k_Shown B1.at, putf_glued]
    exact k _ B1.put
  | join t l r =>
    obtain ⟨q, rfl, hq⟩ := dp4 hd
    refine ⟨q, rfl, _, sqt_of hq B.1, _, atI_nat (j := 0) rfl, ?_⟩
    simp only [tSeq, tAsg, tAnd, tOr, tNot, tTest, tB, tOp, tUn, tCB, tCons, tNil, tVar, tC, gName, rI0, rI, rU, rEq, rNe, rIxS, rIxL, rIxT, tRet, tRetN, tTup, tLst, tSl, tPart, tNoPart, rSlS, tIf, tIfS, tNext, tDrop, tCall, tBM, tBM0, tAndV, tOrV, tNotV, tM0, tM1, gSub, rSetL, sFld, gCons_eq, gNil_eq, tDGet, sDPut, tMeth, tMake, tFld, tChain, tIsN, tNotN,
  List.set_cons_zero, List.set_cons_succ, exists_eq_left', exists_eq_left, exists_eq, V.int.injEq, V.str.injEq, V.bl.injEq, V.ref.injEq, List.cons.injEq, and_true, true_and, List.getElem?_cons_zero, List.getElem?_cons_succ, Option.some.injEq, List.append_nil, exists_and_left, cxOf_K, false_and, and_false, exists_false, false_or, or_false, exists_eq', exists_const, sg_eq, S_eq, S_toList, S_ne, tFor_eq, tLc_eq, iList_eq, iTup_eq, iRng1_eq, iStr_eq, decide_eq_true_eq, Bool.not_eq_true', decide_eq_false_iff_not, if_true, if_false, Bool.false_eq_true, reduceCtorEq, Bool.true_eq_false, decide_true, decide_false]
    rw [if_neg (by decide), if_neg (by decide)]
    have ht : asc t ∧ t.length ≤ 70 := by
      rcases ha with h | ⟨rfl, _⟩
      · exact ⟨h.1.asc, Nat.le_trans h.1.2.1 (by decide)⟩
      · exact ⟨fun c hc => (nomatch hc), by decide⟩
    exact ⟨rfl, rfl, rfl, _, _, hp, rfl, _, sqt_of hq B.1, _, atI_nat (j := 1) rfl, _, sqt_of hq B.1, _, atI_nat (j := 2) rfl, _, sqt_of hq B.1, _, atI_nat (j := 3) rfl, p, dx, sh, G, t, l, r, rfl, B, hs, ht.1, ht.2, fun H1 B1 => k _ B1⟩
  | stop c =>
    obtain ⟨q, rfl, hq⟩ := dp2 hd
    refine ⟨q, rfl, _, sqt_of hq B.1, _, atI_nat (j := 0) rfl, ?_⟩
    simp only [tSeq, tAsg, tAnd, tOr, tNot, tTest, tB, tOp, tUn, tCB, tCons, tNil, tVar, tC, gName, rI0, rI, rU, rEq, rNe, rIxS, rIxL, rIxT, tRet, tRetN, tTup, tLst, tSl, tPart, tNoPart, rSlS, tIf, tIfS, tNext, tDrop, tCall, tBM, tBM0, tAndV, tOrV, tNotV, tM0, tM1, gSub, rSetL, sFld, gCons_eq, gNil_eq, tDGet, sDPut, tMeth, tMake, tFld, tChain, tIsN, tNotN,
  List.set_cons_zero, List.set_cons_succ, exists_eq_left', exists_eq_left, exists_eq, V.int.injEq, V.str.injEq, V.bl.injEq, V.ref.injEq, List.cons.injEq, and_true, true_and, List.getElem?_cons_zero, List.getElem?_cons_succ, Option.some.injEq, List.append_nil, exists_and_left, cxOf_K, false_and, and_false, exists_false, false_or, or_false, exists_eq', exists_const, sg_eq, S_eq, S_toList, S_ne, tFor_eq, tLc_eq, iList_eq, iTup_eq, iRng1_eq, iStr_eq, decide_eq_true_eq, Bool.not_eq_true', decide_eq_false_iff_not, if_true, if_false, Bool.false_eq_true, reduceCtorEq, Bool.true_eq_false, decide_true, decide_false]
    rw [if_neg (by decide), if_neg (by decide), if_neg (by decide), rd_line k_Shown hp]
    refine ⟨rfl, rfl, rfl, rfl, _, sqt_of hq B.1, _, atI_nat (j := 1) rfl, _, rfl, _, rfl, (size_le (by (try simp only [S_len, List.length_append, List.length_cons, List.length_nil]); omega)), ?_⟩
    rw [S_cat]
    simp only [wr_line k_Shown hp, putf_line, wu_tied k_Shown, putf_tied, wu_glued k_Shown, putf_glued, upd_upd]
    refine ⟨_, sqt_of hq B.put.1, _, atI_nat (j := 1) rfl, ?_⟩
    refine ⟨c, rfl, ?_⟩
    have e5 : [46, 63, 33].contains c = decide (c ∈ [46, 63, 33]) := by
      rw [Bool.eq_iff_iff, List.contains_iff_mem, decide_eq_true_eq]
    have k2 := fun H' => k H'
    simp only [doA, stopS] at k2
    rw [e5] at k2
    by_cases hc : c ∈ [46, 63, 33]
    · rw [if_pos hc]
      rw [decide_eq_true hc] at k2
      simp only [wu_size k_Shown, putf_great, upd_upd]
      exact k2 _ B.put
    · rw [if_neg hc]
      rw [decide_eq_false hc] at k2
      simp only [ru_size k_Shown, wu_size k_Shown, putf_size, upd_upd]
      exact k2 _ B.put
  | great =>
    obtain ⟨q, rfl, hq⟩ := dp1 hd
    refine ⟨q, rfl, _, sqt_of hq B.1, _, atI_nat (j := 0) rfl, ?_⟩
    simp only [tSeq, tAsg, tAnd, tOr, tNot, tTest, tB, tOp, tUn, tCB, tCons, tNil, tVar, tC, gName, rI0, rI, rU, rEq, rNe, rIxS, rIxL, rIxT, tRet, tRetN, tTup, tLst, tSl, tPart, tNoPart, rSlS, tIf, tIfS, tNext, tDrop, tCall, tBM, tBM0, tAndV, tOrV, tNotV, tM0, tM1, gSub, rSetL, sFld, gCons_eq, gNil_eq, tDGet, sDPut, tMeth, tMake, tFld, tChain, tIsN, tNotN,
  List.set_cons_zero, List.set_cons_succ, exists_eq_left', exists_eq_left, exists_eq, V.int.injEq, V.str.injEq, V.bl.injEq, V.ref.injEq, List.cons.injEq, and_true, true_and, List.getElem?_cons_zero, List.getElem?_cons_succ, Option.some.injEq, List.append_nil, exists_and_left, cxOf_K, false_and, and_false, exists_false, false_or, or_false, exists_eq', exists_const, sg_eq, S_eq, S_toList, S_ne, tFor_eq, tLc_eq, iList_eq, iTup_eq, iRng1_eq, iStr_eq, decide_eq_true_eq, Bool.not_eq_true', decide_eq_false_iff_not, if_true, if_false, Bool.false_eq_true, reduceCtorEq, Bool.true_eq_false, decide_true, decide_false]
    refine ⟨rfl, rfl, rfl, rfl, rfl, (size_le (by simp only [List.length_cons, List.length_nil]; decide)), fun p1 n1 => in_tup false wGreat [wGreat, wAll] n1 fun H1 s1 => ⟨_, rfl, ?_⟩⟩
    rw [if_pos (by decide)]
    have B1 := B.same s1
    simp only [wr_size k_Shown B1.at, putf_great]
    exact k _ B1.put
  | all =>
    obtain ⟨q, rfl, hq⟩ := dp1 hd
    refine ⟨q, rfl, _, sqt_of hq B.1, _, atI_nat (j := 0) rfl, ?_⟩
    simp only [tSeq, tAsg, tAnd, tOr, tNot, tTest, tB, tOp, tUn, tCB, tCons, tNil, tVar, tC, gName, rI0, rI, rU, rEq, rNe, rIxS, rIxL, rIxT, tRet, tRetN, tTup, tLst, tSl, tPart, tNoPart, rSlS, tIf, tIfS, tNext, tDrop, tCall, tBM, tBM0, tAndV, tOrV, tNotV, tM0, tM1, gSub, rSetL, sFld, gCons_eq, gNil_eq, tDGet, sDPut, tMeth, tMake, tFld, tChain, tIsN, tNotN,
  List.set_cons_zero, List.set_cons_succ, exists_eq_left', exists_eq_left, exists_eq, V.int.injEq, V.str.injEq, V.bl.injEq, V.ref.injEq, List.cons.injEq, and_true, true_and, List.getElem?_cons_zero, List.getElem?_cons_succ, Option.some.injEq, List.append_nil, exists_and_left, cxOf_K, false_and, and_false, exists_false, false_or, or_false, exists_eq', exists_const, sg_eq, S_eq, S_toList, S_ne, tFor_eq, tLc_eq, iList_eq, iTup_eq, iRng1_eq, iStr_eq, decide_eq_true_eq, Bool.not_eq_true', decide_eq_false_iff_not, if_true, if_false, Bool.false_eq_true, reduceCtorEq, Bool.true_eq_false, decide_true, decide_false]
    refine ⟨rfl, rfl, rfl, rfl, rfl, (size_le (by simp only [List.length_cons, List.length_nil]; decide)), fun p1 n1 => in_tup false wAll [wGreat, wAll] n1 fun H1 s1 => ⟨_, rfl, ?_⟩⟩
    rw [if_pos (by decide)]
    have B1 := B.same s1
    simp only [wr_size k_Shown B1.at, putf_all]
    exact k _ B1.put
  | last =>
    obtain ⟨q, rfl, hq⟩ := dp1 hd
    refine ⟨q, rfl, _, sqt_of hq B.1, _, atI_nat (j := 0) rfl, ?_⟩
    simp only [tSeq, tAsg, tAnd, tOr, tNot, tTest, tB, tOp, tUn, tCB, tCons, tNil, tVar, tC, gName, rI0, rI, rU, rEq, rNe, rIxS, rIxL, rIxT, tRet, tRetN, tTup, tLst, tSl, tPart, tNoPart, rSlS, tIf, tIfS, tNext, tDrop, tCall, tBM, tBM0, tAndV, tOrV, tNotV, tM0, tM1, gSub, rSetL, sFld, gCons_eq, gNil_eq, tDGet, sDPut, tMeth, tMake, tFld, tChain, tIsN, tNotN,
  List.set_cons_zero, List.set_cons_succ, exists_eq_left', exists_eq_left, exists_eq, V.int.injEq, V.str.injEq, V.bl.injEq, V.ref.injEq, List.cons.injEq, and_true, true_and, List.getElem?_cons_zero, List.getElem?_cons_succ, Option.some.injEq, List.append_nil, exists_and_left, cxOf_K, false_and, and_false, exists_false, false_or, or_false, exists_eq', exists_const, sg_eq, S_eq, S_toList, S_ne, tFor_eq, tLc_eq, iList_eq, iTup_eq, iRng1_eq, iStr_eq, decide_eq_true_eq, Bool.not_eq_true', decide_eq_false_iff_not, if_true, if_false, Bool.false_eq_true, reduceCtorEq, Bool.true_eq_false, decide_true, decide_false]
    exact ⟨rfl, rfl, rfl, rfl, rfl, _, _, hp, rfl, p, dx, sh, G, rfl, B, hs, k⟩
  | back =>
    obtain ⟨q, rfl, hq⟩ := dp1 hd
    refine ⟨q, rfl, _, sqt_of hq B.1, _, atI_nat (j := 0) rfl, ?_⟩
    simp only [tSeq, tAsg, tAnd, tOr, tNot, tTest, tB, tOp, tUn, tCB, tCons, tNil, tVar, tC, gName, rI0, rI, rU, rEq, rNe, rIxS, rIxL, rIxT, tRet, tRetN, tTup, tLst, tSl, tPart, tNoPart, rSlS, tIf, tIfS, tNext, tDrop, tCall, tBM, tBM0, tAndV, tOrV, tNotV, tM0, tM1, gSub, rSetL, sFld, gCons_eq, gNil_eq, tDGet, sDPut, tMeth, tMake, tFld, tChain, tIsN, tNotN,
  List.set_cons_zero, List.set_cons_succ, exists_eq_left', exists_eq_left, exists_eq, V.int.injEq, V.str.injEq, V.bl.injEq, V.ref.injEq, List.cons.injEq, and_true, true_and, List.getElem?_cons_zero, List.getElem?_cons_succ, Option.some.injEq, List.append_nil, exists_and_left, cxOf_K, false_and, and_false, exists_false, false_or, or_false, exists_eq', exists_const, sg_eq, S_eq, S_toList, S_ne, tFor_eq, tLc_eq, iList_eq, iTup_eq, iRng1_eq, iStr_eq, decide_eq_true_eq, Bool.not_eq_true', decide_eq_false_iff_not, if_true, if_false, Bool.false_eq_true, reduceCtorEq, Bool.true_eq_false, decide_true, decide_false]
    refine ⟨rfl, rfl, rfl, rfl, rfl, (size_le (by simp only [List.length_cons, List.length_nil]; decide)), fun p1 n1 => in_tup false wBack [wGreat, wAll] n1 fun H1 s1 => ⟨_, rfl, ?_⟩⟩
    rw [if_neg (by decide)]
    exact k _ (B.same s1)
  | again =>
    obtain ⟨q, rfl, hq⟩ := dp1 hd
    refine ⟨q, rfl, _, sqt_of hq B.1, _, atI_nat (j := 0) rfl, ?_⟩
    simp only [tSeq, tAsg, tAnd, tOr, tNot, tTest, tB, tOp, tUn, tCB, tCons, tNil, tVar, tC, gName, rI0, rI, rU, rEq, rNe, rIxS, rIxL, rIxT, tRet, tRetN, tTup, tLst, tSl, tPart, tNoPart, rSlS, tIf, tIfS, tNext, tDrop, tCall, tBM, tBM0, tAndV, tOrV, tNotV, tM0, tM1, gSub, rSetL, sFld, gCons_eq, gNil_eq, tDGet, sDPut, tMeth, tMake, tFld, tChain, tIsN, tNotN,
  List.set_cons_zero, List.set_cons_succ, exists_eq_left', exists_eq_left, exists_eq, V.int.injEq, V.str.injEq, V.bl.injEq, V.ref.injEq, List.cons.injEq, and_true, true_and, List.getElem?_cons_zero, List.getElem?_cons_succ, Option.some.injEq, List.append_nil, exists_and_left, cxOf_K, false_and, and_false, exists_false, false_or, or_false, exists_eq', exists_const, sg_eq, S_eq, S_toList, S_ne, tFor_eq, tLc_eq, iList_eq, iTup_eq, iRng1_eq, iStr_eq, decide_eq_true_eq, Bool.not_eq_true', decide_eq_false_iff_not, if_true, if_false, Bool.false_eq_true, reduceCtorEq, Bool.true_eq_false, decide_true, decide_false]
    refine ⟨rfl, rfl, rfl, rfl, rfl, (size_le (by simp only [List.length_cons, List.length_nil]; decide)), fun p1 n1 => in_tup false wAgain [wGreat, wAll] n1 fun H1 s1 => ⟨_, rfl, ?_⟩⟩
    rw [if_neg (by decide)]
    exact k _ (B.same s1)
def sp_Shown_init (C : Addr) : Sp := fun vs H Q _ => ∃ (p dx : Addr) (G : Hp), vs = [.ref p] ∧ Ob p (.ins C dx []) G H ∧ ∀ H', Pg C p dx sh0 G H' → Q .non H'
abbrev s_Shown_init : Stmt := (inClass (top 8) 0)
theorem sc_Shown_init : FnScope ["self"] ["self"] (defScope s_Shown_init) := ⟨rfl, rfl, rfl, by decide +kernel, rfl, by decide +kernel, by decide +kernel⟩

theorem ok_Shown_init {f : Addr} {fd : FuncData} (F : FunM K "__init__" "Shown.__init__" s_Shown_init f fd) (k_Shown : K_Shown K C_Shown) : FnOk P w K mg base CX0 1 f fd ["self"] (sp_Shown_init C_Shown) := by
  refine F.ok sc_Shown_init (fun vs H Q E h => ?_) (fun cdv A outer s H vs Q E hr h => ?_)
  · obtain ⟨p, dx, G, rfl, _⟩ := h
    rfl
  obtain ⟨p, dx, G, rfl, B, k⟩ := h
  refine ⟨_, PSs.nox (pss_cons (ps_fld (pv 0) pe_str rfl)
  (pss_cons (ps_fld (pv 0) pe_bl rfl)
  (pss_cons (ps_fld (pv 0) pe_str rfl)
  (pss_one (ps_fld (pv 0) pe_bl rfl))))), ?_⟩
  simp only [tSeq, tAsg, tAnd, tOr, tNot, tTest, tB, tOp, tUn, tCB, tCons, tNil, tVar, tC, gName, rI0, rI, rU, rEq, rNe, rIxS, rIxL, rIxT, tRet, tRetN, tTup, tLst, tSl, tPart, tNoPart, rSlS, tIf, tIfS, tNext, tDrop, tCall, tBM, tBM0, tAndV, tOrV, tNotV, tM0, tM1, gSub, rSetL, sFld, gCons_eq, gNil_eq, tDGet, sDPut, tMeth, tMake, tFld, tChain, tIsN, tNotN,
  List.set_cons_zero, List.set_cons_succ, exists_eq_left', exists_eq_left, exists_eq, V.int.injEq, V.str.injEq, V.bl.injEq, V.ref.injEq, List.cons.injEq, and_true, true_and, List.getElem?_cons_zero, List.getElem?_cons_succ, Option.some.injEq, List.append_nil, exists_and_left, cxOf_K, false_and, and_false, exists_false, false_or, or_false, exists_eq', exists_const, sg_eq, S_eq, S_toList, S_ne, tFor_eq, tLc_eq, iList_eq, iTup_eq, iRng1_eq, iStr_eq, decide_eq_true_eq, Bool.not_eq_true', decide_eq_false_iff_not, if_true, if_false, Bool.false_eq_true, reduceCtorEq, Bool.true_eq_false, decide_true, decide_false, lit_, start1_1]
  refine ⟨_, _, _, B.at, k_Shown.cls, k_Shown.n_line, by decide, _, _, _, upd_same, k_Shown.cls, k_Shown.n_tied, by decide, _, _, _, upd_same, k_Shown.cls, k_Shown.n_size, by decide, _, _, _, upd_same, k_Shown.cls, k_Shown.n_glued, by decide, ?_⟩
  rw [upd_upd, upd_upd, upd_upd]
  exact k _ B.put
end
/-! ### shown -/
def rowT (r : List Tx) : Tx := TL.joinL [47] r
def rowD (r : List Tx) : PyData := .tuple (r.map dS)
def optD : Option (List Act) → PyData
  | none => .none
  | some e => entD e
abbrev Pie : Type := List Tx × Option (List Act)
def pieD (p : Pie) : PyData := .tuple [rowD p.1, optD p.2]
def pieOk (p : Pie) : Prop := asc (rowT p.1) ∧ (rowT p.1).length ≤ 70 ∧ p.1.length ≤ 6 ∧ (∀ t ∈ p.1, t.length ≤ 70) ∧ ∀ e, p.2 = some e → e.length ≤ 4 ∧ ∀ a ∈ e, actOk a
def pieP (p : Pie) : Tx × Option (List Act) := (rowT p.1, p.2)
theorem acts_ok {n : Nat} {s : Sh} {e : List Act} (hn : n + 80 * e.length ≤ 50000) (h : shOk n s) (ha : ∀ a ∈ e, actOk a) : shOk (n + 80 * e.length) (e.foldl doA s) := by
  induction e generalizing n s with
  | nil => exact h
  | cons a r ih =>
    rw [List.length_cons] at hn ⊢
    have h1 := do_okS (a := a) (by omega) h (ha a List.mem_cons_self)
    have h2 := ih (n := n + 80) (by omega) h1 fun b hb => ha b (List.mem_cons_of_mem _ hb)
    rw [List.foldl_cons]
    exact h2.mono (by omega)
theorem pie_ok {n : Nat} {s : Sh} {p : Pie} (hn : n + 320 ≤ 50000) (h : shOk n s) (hp : pieOk p) : shOk (n + 320) (showP s (pieP p)) := by
  obtain ⟨r, e⟩ := p
  cases e with
  | none => exact (put_okS h hp.1 hp.2.1).mono (by omega)
  | some e =>
    obtain ⟨h1, h2⟩ := hp.2.2.2.2 e rfl
    exact (acts_ok (e := e) (by omega) h h2).mono (by omega)
theorem join_row (r : List Tx) : Txt.join (S [47]) (r.map SX.S) = S (rowT r) := SX.join_S [47] r
theorem sum_len {m : Nat} : ∀ r : List Tx, (∀ t ∈ r, t.length ≤ m) → ((r.map SX.S).map (·.length)).sum ≤ m * r.length
  | [], _ => Nat.zero_le _
  | t :: r, h => by
    have ih := sum_len r fun x hx => h x (List.mem_cons_of_mem _ hx)
    have h1 := h t List.mem_cons_self
    rw [List.map_cons, List.map_cons, List.sum_cons, List.length_cons, Nat.mul_succ]
    have : (SX.S t).length = t.length := SX.S_len t
    omega
theorem dp_row {K : PySem.W.Frag} {H : Hp} {v : V} {r : List Tx} (h : Dp K H v (rowD r)) : ∃ q, v = .ref q ∧ SqT K H q ((r.map SX.S).map V.str) := by
  obtain ⟨q, xs, e, hq, hx⟩ := dp_tup h
  have : xs = (r.map SX.S).map V.str := by
    clear hq h e
    induction r generalizing xs with
    | nil => exact dps_nil hx
    | cons t r ih =>
      obtain ⟨r2, e2, hx⟩ := dps_str hx
      rw [e2, ih _ hx]
      rfl
  rw [this] at hq
  exact ⟨q, e, hq⟩
def sp_shown (K : PySem.W.Frag) : Sp := fun vs H Q _ => ∃ (a : Addr) (xs : List V) (ps : List Pie), vs = [.ref a] ∧ SqL K H a xs ∧ DpAll K H xs (ps.map pieD) ∧ ps.length ≤ 150 ∧ (∀ p ∈ ps, pieOk p) ∧ ∀ H', Same H H' → Q (.str (S (showAll (ps.map pieP)))) H'
def shInv (K : PySem.W.Frag) (C_Shown a p dx : Addr) (H : Hp) (ps : List Pie) (rest : List V) (σ : L2.St) (H' : Hp) : Prop := ∃ (done todo : List Pie) (y2 y3 y4 : Option V), ps = done ++ todo ∧ DpAll K H rest (todo.map pieD) ∧ σ = [some (.ref a), some (.ref p), y2, y3, y4] ∧ shOk (320 * done.length) ((done.map pieP).foldl showP sh0) ∧ Pg C_Shown p dx ((done.map pieP).foldl showP sh0) H H'
def shInv2 (K : PySem.W.Frag) (C_Shown a p dx : Addr) (H : Hp) (s0 : Sh) (n : Nat) (y2 y3 : Option V) (en : List Act) (rest : List V) (σ : L2.St) (H' : Hp) : Prop := ∃ (done todo : List Act) (y4 : Option V), en = done ++ todo ∧ DpAll K H rest (todo.map actD) ∧ σ = [some (.ref a), some (.ref p), y2, y3, y4] ∧ shOk (n + 80 * done.length) (done.foldl doA s0) ∧ Pg C_Shown p dx (done.foldl doA s0) H H'
abbrev s_shown : Stmt := (top 9)
theorem sc_shown : FnScope ["pieces", "page", "row", "entry", "action"] ["pieces"] (defScope s_shown) := ⟨rfl, rfl, rfl, by decide +kernel, rfl, by decide +kernel, by decide +kernel⟩

section
variable {P : Program} {w : World} {K : PySem.W.Frag} {mg : Str → Option Value} {base : Heap} {C_Shown : Addr}
theorem ok_shown {f : Addr} {fd : FuncData} (F : FunS K "shown" s_shown f fd) (k_Shown : K_Shown K C_Shown) (mk_Shown : Mak P w K mg base CX0 1 "Shown" C_Shown (sp_Shown_init C_Shown)) (c_Shown_put : Met P w K mg base CX0 2 C_Shown "put" (sp_put C_Shown)) (c_Shown_do : Met P w K mg base CX0 6 C_Shown "do" (sp_do K C_Shown)) : FnOk P w K mg base CX0 7 f fd ["pieces"] (sp_shown K) := by
  refine F.ok sc_shown (fun vs H Q E h => ?_) (fun cdv A outer s H vs Q E hr h => ?_)
  · obtain ⟨a, xs, ps, rfl, _⟩ := h
    rfl
  obtain ⟨a, xs, ps, rfl, hq, hd, hl, ho, k⟩ := h
  refine ⟨_, PSs.nox (pss_cons (ps_set (i := 1) sc_shown.nd rfl (.inl rfl) (pe_mk0 mk_Shown hr (by first | decide | omega) (by rfl)))
  (pss_cons (ps_for PassesOwn.never rfl (pi_list (pv 0)) (pg_tup (by rfl) (pgs_cons (pg_name (i := 2) sc_shown.nd rfl (.inl rfl)) (pgs_cons (pg_name (i := 3) sc_shown.nd rfl (.inl rfl)) pgs_nil)))
    (pss_one (ps_if (pt_cmpR op_isN (pv 3) pe_non (nomark _))
    (pss_one (ps_expr (pe_mt c_Shown_put hr (by decide) (pv 1) (pa_cons (pe_join pe_str (pv 2)) (pa_cons pe_bl pa_nil)))))
    (pss_one (ps_for PassesOwn.never rfl (pi_tup (pv 3)) (pg_name (i := 4) sc_shown.nd rfl (.inl rfl))
    (pss_one (ps_expr (pe_mt c_Shown_do hr (by decide) (pv 1) (pa_cons (pv 4) pa_nil)))))))))
  (pss_one (ps_ret (pe_fld (pv 1) rfl))))), ?_⟩
  simp only [tSeq, tAsg, tAnd, tOr, tNot, tTest, tB, tOp, tUn, tCB, tCons, tNil, tVar, tC, gName, rI0, rI, rU, rEq, rNe, rIxS, rIxL, rIxT, tRet, tRetN, tTup, tLst, tSl, tPart, tNoPart, rSlS, tIf, tIfS, tNext, tDrop, tCall, tBM, tBM0, tAndV, tOrV, tNotV, tM0, tM1, gSub, rSetL, sFld, gCons_eq, gNil_eq, tDGet, sDPut, tMeth, tMake, tFld, tChain, tIsN, tNotN,
  List.set_cons_zero, List.set_cons_succ, exists_eq_left', exists_eq_left, exists_eq, V.int.injEq, V.str.injEq, V.bl.injEq, V.ref.injEq, List.cons.injEq, and_true, true_and, List.getElem?_cons_zero, List.getElem?_cons_succ, Option.some.injEq, List.append_nil, exists_and_left, cxOf_K, false_and, and_false, exists_false, false_or, or_false, exists_eq', exists_const, sg_eq, S_eq, S_toList, S_ne, tFor_eq, tLc_eq, iList_eq, iTup_eq, iRng1_eq, iStr_eq, decide_eq_true_eq, Bool.not_eq_true', decide_eq_false_iff_not, if_true, if_false, Bool.false_eq_true, reduceCtorEq, Bool.true_eq_false, decide_true, decide_false, lit_47, start1_5]
  intro p dx np ndx hne
  have s0 : Same H (upd H dx (.own p)) := same_new ndx
  have np2 : upd H dx (.own p) p = none := by rw [upd_ne hne.symm]; exact np
  refine ⟨p, dx, H, rfl, ⟨s0.trans (same_new np2), np, upd_same⟩, fun H1 B1 => ⟨rfl, ⟨xs, same_l B1.1 hq⟩, ?_⟩⟩
  refine loop_list xs (shInv K C_Shown a p dx H ps)
    ⟨[], ps, none, none, none, rfl, hd, rfl, ⟨fun c hc => (nomatch hc), Nat.le_refl _⟩, B1⟩ (fun r σ H' ⟨_, _, _, _, _, _, _, _, _, B⟩ => same_l B.1 hq) ?_ ?_
  · rintro x r σ H2 ⟨done, todo, y2, y3, y4, e, hx, rfl, hs, B2⟩
    cases todo with
    | nil => exact absurd (dps_nil hx) (fun z => nomatch z)
    | cons pie todo =>
      obtain ⟨v, r', er, hv, hx⟩ := dps_cons hx
      cases er
      have hpie : pieOk pie := ho pie (by rw [e]; exact List.mem_append_right _ List.mem_cons_self)
      have hlen : done.length < 150 := by
        have := congrArg List.length e
        rw [List.length_append, List.length_cons] at this
        omega
      have hs' := pie_ok (by omega) hs hpie
      have e' : ps = (done ++ [pie]) ++ todo := by rw [e]; simp
      have ef : ((done ++ [pie]).map pieP).foldl showP sh0 = showP ((done.map pieP).foldl showP sh0) (pieP pie) := by
        rw [List.map_append, List.foldl_append]
        rfl
      have fin : ∀ (y2 y3 y4 : Option V) H', Pg C_Shown p dx (showP ((done.map pieP).foldl showP sh0) (pieP pie)) H H' → shInv K C_Shown a p dx H ps r [some (.ref a), some (.ref p), y2, y3, y4] H' := fun y2 y3 y4 H' B => by
        refine ⟨done ++ [pie], todo, y2, y3, y4, e', hx, rfl, ?_, ?_⟩
        · rw [ef, List.length_append, List.length_singleton]
          exact hs'.mono (by omega)
        · rw [ef]
          exact B
      obtain ⟨row, ent⟩ := pie
      obtain ⟨q, ys, rfl, hq2, hys⟩ := dp_tup hv
      obtain ⟨v1, r1, rfl, hv1, hys⟩ := dps_cons hys
      obtain ⟨v2, r2, rfl, hv2, hys⟩ := dps_cons hys
      obtain rfl := dps_nil hys
      refine ⟨q, _, rfl, same_t B2.1 hq2, rfl, ?_⟩
      have hp2 := B2.at
      have n320 : 320 * done.length ≤ 320 * 149 := Nat.mul_le_mul_left _ (by omega)
      cases ent with
      | none =>
        rw [dp_non hv2]
        obtain ⟨q2, rfl, hq3⟩ := dp_row hv1
        simp only [tSeq, tAsg, tAnd, tOr, tNot, tTest, tB, tOp, tUn, tCB, tCons, tNil, tVar, tC, gName, rI0, rI, rU, rEq, rNe, rIxS, rIxL, rIxT, tRet, tRetN, tTup, tLst, tSl, tPart, tNoPart, rSlS, tIf, tIfS, tNext, tDrop, tCall, tBM, tBM0, tAndV, tOrV, tNotV, tM0, tM1, gSub, rSetL, sFld, gCons_eq, gNil_eq, tDGet, sDPut, tMeth, tMake, tFld, tChain, tIsN, tNotN,
  List.set_cons_zero, List.set_cons_succ, exists_eq_left', exists_eq_left, exists_eq, V.int.injEq, V.str.injEq, V.bl.injEq, V.ref.injEq, List.cons.injEq, and_true, true_and, List.getElem?_cons_zero, List.getElem?_cons_succ, Option.some.injEq, List.append_nil, exists_and_left, cxOf_K, false_and, and_false, exists_false, false_or, or_false, exists_eq', exists_const, sg_eq, S_eq, S_toList, S_ne, tFor_eq, tLc_eq, iList_eq, iTup_eq, iRng1_eq, iStr_eq, decide_eq_true_eq, Bool.not_eq_true', decide_eq_false_iff_not, if_true, if_false, Bool.false_eq_true, reduceCtorEq, Bool.true_eq_false, decide_true, decide_false]
        refine ⟨_, _, hp2, rfl, _, .inr (same_t B2.1 hq3), ?_, ?_⟩
        · have h1 := sum_len row hpie.2.2.2.1
          have h2 : row.length ≤ 6 := hpie.2.2.1
          have h3 : (S [47]).length = 1 := rfl
          rw [h3, List.length_map]
          show (List.map (fun x => x.length) (List.map SX.S row)).sum + row.length * 1 ≤ 16777216
          omega
        · rw [join_row]
          exact ⟨p, dx, _, H, _, false, rfl, B2, hs.mono (by omega), hpie.1, hpie.2.1, fun H3 B3 => fin _ _ _ H3 B3⟩
      | some en =>
        obtain ⟨q3, zs, rfl, hq4, hzs⟩ := dp_tup hv2
        obtain ⟨he1, he2⟩ := hpie.2.2.2.2 en rfl
        simp only [tSeq, tAsg, tAnd, tOr, tNot, tTest, tB, tOp, tUn, tCB, tCons, tNil, tVar, tC, gName, rI0, rI, rU, rEq, rNe, rIxS, rIxL, rIxT, tRet, tRetN, tTup, tLst, tSl, tPart, tNoPart, rSlS, tIf, tIfS, tNext, tDrop, tCall, tBM, tBM0, tAndV, tOrV, tNotV, tM0, tM1, gSub, rSetL, sFld, gCons_eq, gNil_eq, tDGet, sDPut, tMeth, tMake, tFld, tChain, tIsN, tNotN,
  List.set_cons_zero, List.set_cons_succ, exists_eq_left', exists_eq_left, exists_eq, V.int.injEq, V.str.injEq, V.bl.injEq, V.ref.injEq, List.cons.injEq, and_true, true_and, List.getElem?_cons_zero, List.getElem?_cons_succ, Option.some.injEq, List.append_nil, exists_and_left, cxOf_K, false_and, and_false, exists_false, false_or, or_false, exists_eq', exists_const, sg_eq, S_eq, S_toList, S_ne, tFor_eq, tLc_eq, iList_eq, iTup_eq, iRng1_eq, iStr_eq, decide_eq_true_eq, Bool.not_eq_true', decide_eq_false_iff_not, if_true, if_false, Bool.false_eq_true, reduceCtorEq, Bool.true_eq_false, decide_true, decide_false]
        refine ⟨⟨_, same_t B2.1 hq4⟩, ?_⟩
        refine loop_tup zs (shInv2 K C_Shown a p dx H ((done.map pieP).foldl showP sh0) (320 * done.length) (some v1) (some (V.ref q3)) en) ⟨[], en, y4, rfl, hzs, rfl, hs, B2⟩ (fun r2 σ H' ⟨_, _, _, _, _, _, _, B⟩ => same_t B.1 hq4) ?_ ?_
        · rintro x2 r2 σ H3 ⟨done2, todo2, y5, e2, hx2, rfl, hs2, B3⟩
          cases todo2 with
          | nil => exact absurd (dps_nil hx2) (fun z => nomatch z)
          | cons act todo2 =>
            obtain ⟨v', r'', er, hv3, hx2⟩ := dps_cons hx2
            cases er
            have hact : actOk act := he2 act (by rw [e2]; exact List.mem_append_right _ List.mem_cons_self)
            have hl4 : done2.length < 4 := by
              have := congrArg List.length e2
              rw [List.length_append, List.length_cons] at this
              omega
            have h80 := do_okS (a := act) (by omega) hs2 hact
            simp only [tSeq, tAsg, tAnd, tOr, tNot, tTest, tB, tOp, tUn, tCB, tCons, tNil, tVar, tC, gName, rI0, rI, rU, rEq, rNe, rIxS, rIxL, rIxT, tRet, tRetN, tTup, tLst, tSl, tPart, tNoPart, rSlS, tIf, tIfS, tNext, tDrop, tCall, tBM, tBM0, tAndV, tOrV, tNotV, tM0, tM1, gSub, rSetL, sFld, gCons_eq, gNil_eq, tDGet, sDPut, tMeth, tMake, tFld, tChain, tIsN, tNotN,
  List.set_cons_zero, List.set_cons_succ, exists_eq_left', exists_eq_left, exists_eq, V.int.injEq, V.str.injEq, V.bl.injEq, V.ref.injEq, List.cons.injEq, and_true, true_and, List.getElem?_cons_zero, List.getElem?_cons_succ, Option.some.injEq, List.append_nil, exists_and_left, cxOf_K, false_and, and_false, exists_false, false_or, or_false, exists_eq', exists_const, sg_eq, S_eq, S_toList, S_ne, tFor_eq, tLc_eq, iList_eq, iTup_eq, iRng1_eq, iStr_eq, decide_eq_true_eq, Bool.not_eq_true', decide_eq_false_iff_not, if_true, if_false, Bool.false_eq_true, reduceCtorEq, Bool.true_eq_false, decide_true, decide_false]
            refine ⟨_, _, B3.at, rfl, p, dx, _, H, _, act, rfl, B3, hs2.mono (by omega), hv3, hact, fun H4 B4 => ?_⟩
            refine ⟨done2 ++ [act], todo2, some _, by rw [e2]; simp, hx2, rfl, ?_, ?_⟩
            · rw [List.foldl_append, List.length_append, List.length_singleton]
              exact h80.mono (by omega)
            · rw [List.foldl_append]
              exact B4
        · rintro σ H3 ⟨done2, todo2, y5, e2, hx2, rfl, hs2, B3⟩
          cases todo2 with
          | cons act todo2 =>
            obtain ⟨v', r'', er, _⟩ := dps_cons hx2
            cases er
          | nil =>
            rw [List.append_nil] at e2
            subst e2
            exact fin _ _ _ H3 B3
  · rintro σ H2 ⟨done, todo, y2, y3, y4, e, hx, rfl, hs, B2⟩
    cases todo with
    | cons pie todo =>
      obtain ⟨v, r', er, hv, hx⟩ := dps_cons hx
      cases er
    | nil =>
      rw [List.append_nil] at e
      subst e
      simp only [tSeq, tAsg, tAnd, tOr, tNot, tTest, tB, tOp, tUn, tCB, tCons, tNil, tVar, tC, gName, rI0, rI, rU, rEq, rNe, rIxS, rIxL, rIxT, tRet, tRetN, tTup, tLst, tSl, tPart, tNoPart, rSlS, tIf, tIfS, tNext, tDrop, tCall, tBM, tBM0, tAndV, tOrV, tNotV, tM0, tM1, gSub, rSetL, sFld, gCons_eq, gNil_eq, tDGet, sDPut, tMeth, tMake, tFld, tChain, tIsN, tNotN,
  List.set_cons_zero, List.set_cons_succ, exists_eq_left', exists_eq_left, exists_eq, V.int.injEq, V.str.injEq, V.bl.injEq, V.ref.injEq, List.cons.injEq, and_true, true_and, List.getElem?_cons_zero, List.getElem?_cons_succ, Option.some.injEq, List.append_nil, exists_and_left, cxOf_K, false_and, and_false, exists_false, false_or, or_false, exists_eq', exists_const, sg_eq, S_eq, S_toList, S_ne, tFor_eq, tLc_eq, iList_eq, iTup_eq, iRng1_eq, iStr_eq, decide_eq_true_eq, Bool.not_eq_true', decide_eq_false_iff_not, if_true, if_false, Bool.false_eq_true, reduceCtorEq, Bool.true_eq_false, decide_true, decide_false, rd_line k_Shown B2.at]
      exact k _ B2.1
end
/-! ### the law's shown -/
abbrev kText : Str := S [116, 101, 120, 116]
abbrev kTied : Str := S [116, 105, 101, 100]
abbrev kGlued : Str := S [103, 108, 117, 101, 100]
abbrev kSize : Str := S [115, 105, 122, 101]
def qf (s : Sh) : List (Key × V) := [(.inr (S [116, 101, 120, 116]), (.str (S s.line))), (.inr (S [116, 105, 101, 100]), (.bl s.tied)), (.inr (S [103, 108, 117, 101, 100]), (.bl s.glued)), (.inr (S [115, 105, 122, 101]), (.str (S (szT s.size))))]
theorem qf_len (s : Sh) : (qf s).length < sizeLine := size_lt (by show 4 < 1000000; decide)
theorem rq_text {H : Hp} {q : Addr} {s : Sh} {Q : V → Prop} (hp : H q = some (.dK (qf s))) : (∃ v', DGet H q (.str (S [116, 101, 120, 116])) (some v') ∧ Q v') ↔ Q (.str (S s.line)) := dget_iff hp rfl
theorem ruq_text {H : Hp} {q : Addr} {s : Sh} {Q : V → Prop} : (∃ v', DGet (upd H q (.dK (qf s))) q (.str (S [116, 101, 120, 116])) (some v') ∧ Q v') ↔ Q (.str (S s.line)) := dget_iff upd_same rfl
theorem rq_tied {H : Hp} {q : Addr} {s : Sh} {Q : V → Prop} (hp : H q = some (.dK (qf s))) : (∃ v', DGet H q (.str (S [116, 105, 101, 100])) (some v') ∧ Q v') ↔ Q (.bl s.tied) := dget_iff hp rfl
theorem ruq_tied {H : Hp} {q : Addr} {s : Sh} {Q : V → Prop} : (∃ v', DGet (upd H q (.dK (qf s))) q (.str (S [116, 105, 101, 100])) (some v') ∧ Q v') ↔ Q (.bl s.tied) := dget_iff upd_same rfl
theorem rq_glued {H : Hp} {q : Addr} {s : Sh} {Q : V → Prop} (hp : H q = some (.dK (qf s))) : (∃ v', DGet H q (.str (S [103, 108, 117, 101, 100])) (some v') ∧ Q v') ↔ Q (.bl s.glued) := dget_iff hp rfl
theorem ruq_glued {H : Hp} {q : Addr} {s : Sh} {Q : V → Prop} : (∃ v', DGet (upd H q (.dK (qf s))) q (.str (S [103, 108, 117, 101, 100])) (some v') ∧ Q v') ↔ Q (.bl s.glued) := dget_iff upd_same rfl
theorem rq_size {H : Hp} {q : Addr} {s : Sh} {Q : V → Prop} (hp : H q = some (.dK (qf s))) : (∃ v', DGet H q (.str (S [115, 105, 122, 101])) (some v') ∧ Q v') ↔ Q (.str (S (szT s.size))) := dget_iff hp rfl
theorem ruq_size {H : Hp} {q : Addr} {s : Sh} {Q : V → Prop} : (∃ v', DGet (upd H q (.dK (qf s))) q (.str (S [115, 105, 122, 101])) (some v') ∧ Q v') ↔ Q (.str (S (szT s.size))) := dget_iff upd_same rfl
theorem wq_text {H : Hp} {q : Addr} {s : Sh} {t : Tx} {R : Hp → Prop} (hp : H q = some (.dK (qf s))) : (∃ H', DPut H q (.str (S [116, 101, 120, 116])) (.str (S t)) H' ∧ R H') ↔ R (upd H q (.dK (qf { s with line := t }))) := dput_iff hp (qf_len s)
theorem wuq_text {H : Hp} {q : Addr} {s : Sh} {t : Tx} {R : Hp → Prop} : (∃ H', DPut (upd H q (.dK (qf s))) q (.str (S [116, 101, 120, 116])) (.str (S t)) H' ∧ R H') ↔ R (upd H q (.dK (qf { s with line := t }))) := (dput_iff upd_same (qf_len s)).trans (by rw [upd_upd]; rfl)
theorem wq_tied {H : Hp} {q : Addr} {s : Sh} {t : Bool} {R : Hp → Prop} (hp : H q = some (.dK (qf s))) : (∃ H', DPut H q (.str (S [116, 105, 101, 100])) (.bl t) H' ∧ R H') ↔ R (upd H q (.dK (qf { s with tied := t }))) := dput_iff hp (qf_len s)
theorem wuq_tied {H : Hp} {q : Addr} {s : Sh} {t : Bool} {R : Hp → Prop} : (∃ H', DPut (upd H q (.dK (qf s))) q (.str (S [116, 105, 101, 100])) (.bl t) H' ∧ R H') ↔ R (upd H q (.dK (qf { s with tied := t }))) := (dput_iff upd_same (qf_len s)).trans (by rw [upd_upd]; rfl)
theorem wq_glued {H : Hp} {q : Addr} {s : Sh} {t : Bool} {R : Hp → Prop} (hp : H q = some (.dK (qf s))) : (∃ H', DPut H q (.str (S [103, 108, 117, 101, 100])) (.bl t) H' ∧ R H') ↔ R (upd H q (.dK (qf { s with glued := t }))) := dput_iff hp (qf_len s)
theorem wuq_glued {H : Hp} {q : Addr} {s : Sh} {t : Bool} {R : Hp → Prop} : (∃ H', DPut (upd H q (.dK (qf s))) q (.str (S [103, 108, 117, 101, 100])) (.bl t) H' ∧ R H') ↔ R (upd H q (.dK (qf { s with glued := t }))) := (dput_iff upd_same (qf_len s)).trans (by rw [upd_upd]; rfl)
theorem wq_size {H : Hp} {q : Addr} {s : Sh} {t : Sz} {R : Hp → Prop} (hp : H q = some (.dK (qf s))) : (∃ H', DPut H q (.str (S [115, 105, 122, 101])) (.str (S (szT t))) H' ∧ R H') ↔ R (upd H q (.dK (qf { s with size := t }))) := dput_iff hp (qf_len s)
theorem wuq_size {H : Hp} {q : Addr} {s : Sh} {t : Sz} {R : Hp → Prop} : (∃ H', DPut (upd H q (.dK (qf s))) q (.str (S [115, 105, 122, 101])) (.str (S (szT t))) H' ∧ R H') ↔ R (upd H q (.dK (qf { s with size := t }))) := (dput_iff upd_same (qf_len s)).trans (by rw [upd_upd]; rfl)
theorem wq_no {H : Hp} {q : Addr} {s : Sh} {R : Hp → Prop} (hp : H q = some (.dK (qf s))) : (∃ H', DPut H q (.str (S [115, 105, 122, 101])) (.str (S [])) H' ∧ R H') ↔ R (upd H q (.dK (qf { s with size := .no }))) := wq_size (t := .no) hp
theorem wuq_no {H : Hp} {q : Addr} {s : Sh} {R : Hp → Prop} : (∃ H', DPut (upd H q (.dK (qf s))) q (.str (S [115, 105, 122, 101])) (.str (S [])) H' ∧ R H') ↔ R (upd H q (.dK (qf { s with size := .no }))) := wuq_size (t := .no)
theorem wq_great {H : Hp} {q : Addr} {s : Sh} {R : Hp → Prop} (hp : H q = some (.dK (qf s))) : (∃ H', DPut H q (.str (S [115, 105, 122, 101])) (.str (S [103, 114, 101, 97, 116])) H' ∧ R H') ↔ R (upd H q (.dK (qf { s with size := .great }))) := wq_size (t := .great) hp
theorem wuq_great {H : Hp} {q : Addr} {s : Sh} {R : Hp → Prop} : (∃ H', DPut (upd H q (.dK (qf s))) q (.str (S [115, 105, 122, 101])) (.str (S [103, 114, 101, 97, 116])) H' ∧ R H') ↔ R (upd H q (.dK (qf { s with size := .great }))) := wuq_size (t := .great)
theorem wq_all {H : Hp} {q : Addr} {s : Sh} {R : Hp → Prop} (hp : H q = some (.dK (qf s))) : (∃ H', DPut H q (.str (S [115, 105, 122, 101])) (.str (S [97, 108, 108])) H' ∧ R H') ↔ R (upd H q (.dK (qf { s with size := .all }))) := wq_size (t := .all) hp
theorem wuq_all {H : Hp} {q : Addr} {s : Sh} {R : Hp → Prop} : (∃ H', DPut (upd H q (.dK (qf s))) q (.str (S [115, 105, 122, 101])) (.str (S [97, 108, 108])) H' ∧ R H') ↔ R (upd H q (.dK (qf { s with size := .all }))) := wuq_size (t := .all)
abbrev Qg (q : Addr) (s : Sh) (G H : Hp) : Prop := Ob q (.dK (qf s)) G H
section
variable {P : Program} {w : World} {K : PySem.W.Frag} {mg : Str → Option Value} {base : Heap}
def sp_lsized : Sp := fun vs H Q _ => ∃ (q : Addr) (s : Sh) (G : Hp) (w : Tx), vs = [.ref q, .str (S w)] ∧ Qg q s G H ∧ asc w ∧ 1 ≤ w.length ∧ w.length ≤ 70 ∧ ∀ H', Qg q { s with size := .no } G H' → Q (.str (S (sized s.size w))) H'
abbrev s_l_sized : Stmt := (top 22)
theorem sc_l_sized : FnScope ["_law_s", "_law_word_here", "_law_size"] ["_law_s", "_law_word_here"] (defScope s_l_sized) := ⟨rfl, rfl, rfl, by decide +kernel, rfl, by decide +kernel, by decide +kernel⟩

theorem ok_lsized {f : Addr} {fd : FuncData} (F : FunS K "_law_sized" s_l_sized f fd)  : FnOk P w K mg base CX0 1 f fd ["_law_s", "_law_word_here"] sp_lsized := by
  refine F.ok sc_l_sized (fun vs H Q E h => ?_) (fun cdv A outer s H vs Q E hr h => ?_)
  · obtain ⟨q, s, G, w, rfl, _⟩ := h
    rfl
  obtain ⟨q, sh, G, w, rfl, B, hw, h1, hl, k⟩ := h
  refine ⟨_, PSs.nox (pss_cons (ps_set (i := 2) sc_l_sized.nd rfl (.inl rfl) (pe_dget (hu_of hr) (pv 0) pe_str (fun _ _ => rfl)))
  (pss_cons (ps_dput (hu_of hr) (pv 0) pe_str pe_str rfl)
  (pss_cons (ps_if (pt_cmpR op_eq (pv 2) pe_str (nomark _))
    (pss_one (ps_ret (pe_upper (pv 1))))
    pss_nil)
  (pss_cons (ps_if (pt_cmpR op_eq (pv 2) pe_str (nomark _))
    (pss_one (ps_ret (pe_op op_add_str (pe_upper (pe_ix ix_str (pv 1) pe_int (fun _ _ => rfl))) (pe_slice sl_str (pv 1) (po_some pe_int) po_none))))
    pss_nil)
  (pss_one (ps_ret (pv 1))))))), ?_⟩
  have hp := B.at
  simp only [tSeq, tAsg, tAnd, tOr, tNot, tTest, tB, tOp, tUn, tCB, tCons, tNil, tVar, tC, gName, rI0, rI, rU, rEq, rNe, rIxS, rIxL, rIxT, tRet, tRetN, tTup, tLst, tSl, tPart, tNoPart, rSlS, tIf, tIfS, tNext, tDrop, tCall, tBM, tBM0, tAndV, tOrV, tNotV, tM0, tM1, gSub, rSetL, sFld, gCons_eq, gNil_eq, tDGet, sDPut, tMeth, tMake, tFld, tChain, tIsN, tNotN,
  List.set_cons_zero, List.set_cons_succ, exists_eq_left', exists_eq_left, exists_eq, V.int.injEq, V.str.injEq, V.bl.injEq, V.ref.injEq, List.cons.injEq, and_true, true_and, List.getElem?_cons_zero, List.getElem?_cons_succ, Option.some.injEq, List.append_nil, exists_and_left, cxOf_K, false_and, and_false, exists_false, false_or, or_false, exists_eq', exists_const, sg_eq, S_eq, S_toList, S_ne, tFor_eq, tLc_eq, iList_eq, iTup_eq, iRng1_eq, iStr_eq, decide_eq_true_eq, Bool.not_eq_true', decide_eq_false_iff_not, if_true, if_false, Bool.false_eq_true, reduceCtorEq, Bool.true_eq_false, decide_true, decide_false, lit_, lit_115_105_122_101, lit_97_108_108, lit_103_114_101_97_116, start2_3, rq_size hp, wq_no hp]
  have eu : Txt.upper (S w) = S (w.map PyProof.Rows.up1) := SX.upper_S (all_asc hw)
  have z : (S w).length ≤ 100 := by rw [S_len]; omega
  have qq := k _ B.put
  obtain ⟨ln, td, sz, gl⟩ := sh
  cases sz with
  | no => exact ⟨rfl, rfl, qq⟩
  | all =>
    simp only [szT, if_true, eu]
    exact ⟨rfl, Nat.le_trans z (by decide), qq⟩
  | great =>
    match w, h1 with
    | c :: t, h1 =>
    have e1 : Txt.upper (S [c]) = S [PyProof.Rows.up1 c] := SX.upper_S (all_asc fun x hx => by
      rw [List.mem_singleton.mp hx]
      exact hw c List.mem_cons_self)
    have c2 : cutS (S (c :: t)) (some 1) none = S t := by
      rw [cutS_S]
      exact congrArg S (cutL_from (c :: t) 1)
    have a0 : atI (c :: t) 0 = some c := atI_nat (j := 0) rfl
    rw [List.length_cons] at hl
    simp only [szT]
    rw [if_neg (by decide)]
    refine ⟨rfl, rfl, ?_⟩
    simp only [tSeq, tAsg, tAnd, tOr, tNot, tTest, tB, tOp, tUn, tCB, tCons, tNil, tVar, tC, gName, rI0, rI, rU, rEq, rNe, rIxS, rIxL, rIxT, tRet, tRetN, tTup, tLst, tSl, tPart, tNoPart, rSlS, tIf, tIfS, tNext, tDrop, tCall, tBM, tBM0, tAndV, tOrV, tNotV, tM0, tM1, gSub, rSetL, sFld, gCons_eq, gNil_eq, tDGet, sDPut, tMeth, tMake, tFld, tChain, tIsN, tNotN,
  List.set_cons_zero, List.set_cons_succ, exists_eq_left', exists_eq_left, exists_eq, V.int.injEq, V.str.injEq, V.bl.injEq, V.ref.injEq, List.cons.injEq, and_true, true_and, List.getElem?_cons_zero, List.getElem?_cons_succ, Option.some.injEq, List.append_nil, exists_and_left, cxOf_K, false_and, and_false, exists_false, false_or, or_false, exists_eq', exists_const, sg_eq, S_eq, S_toList, S_ne, tFor_eq, tLc_eq, iList_eq, iTup_eq, iRng1_eq, iStr_eq, decide_eq_true_eq, Bool.not_eq_true', decide_eq_false_iff_not, if_true, if_false, Bool.false_eq_true, reduceCtorEq, Bool.true_eq_false, decide_true, decide_false, a0, e1, c2, S_cat, if_true]
    exact ⟨Nat.le_trans z (by decide), Nat.le_trans (by rw [S_len]; simp : (S [c]).length ≤ 1) (by decide), Nat.le_trans z (by decide), (size_le (by (try simp only [S_len, List.length_append, List.length_cons, List.length_nil]); omega)), qq⟩
def sp_lput : Sp := fun vs H Q _ => ∃ (q : Addr) (s : Sh) (G : Hp) (w : Tx) (c : Bool), vs = [.ref q, .str (S w), .bl c] ∧ Qg q s G H ∧ shOk 60000 s ∧ asc w ∧ 1 ≤ w.length ∧ w.length ≤ 70 ∧ ∀ H', Qg q (putS s w c) G H' → Q .non H'
abbrev s_l_put : Stmt := (top 23)
theorem sc_l_put : FnScope ["_law_s", "_law_word_here", "_law_close"] ["_law_s", "_law_word_here", "_law_close"] (defScope s_l_put) := ⟨rfl, rfl, rfl, by decide +kernel, rfl, by decide +kernel, by decide +kernel⟩

theorem ok_lput {f : Addr} {fd : FuncData} (F : FunS K "_law_put" s_l_put f fd) (c_l_sized : Cal P w K mg base CX0 1 "_law_sized" sp_lsized) : FnOk P w K mg base CX0 2 f fd ["_law_s", "_law_word_here", "_law_close"] sp_lput := by
  refine F.ok sc_l_put (fun vs H Q E h => ?_) (fun cdv A outer s H vs Q E hr h => ?_)
  · obtain ⟨q, s, G, w, c, rfl, _⟩ := h
    rfl
  obtain ⟨q, sh, G, w, c, rfl, B, hs, hw, h1, hl, k⟩ := h
  refine ⟨_, PSs.nox (pss_cons (ps_if (PW.pt (pw_and (pt_cmpR op_ne (pe_dget (hu_of hr) (pv 0) pe_str (fun _ _ => rfl)) pe_str (nomark _)) (pw_and (pt_not (pt_val (pe_dget (hu_of hr) (pv 0) pe_str (fun _ _ => rfl)))) (pw_and1 (pt_not (pt_val (pv 2)))))))
    (pss_one (ps_dput (hu_of hr) (pv 0) pe_str (pe_op op_add_str (pe_dget (hu_of hr) (pv 0) pe_str (fun _ _ => rfl)) pe_str) rfl))
    pss_nil)
  (pss_cons (ps_dput (hu_of hr) (pv 0) pe_str (pe_op op_add_str (pe_dget (hu_of hr) (pv 0) pe_str (fun _ _ => rfl)) (pe_c c_l_sized hr (by first | decide | omega) (by rfl) (pa_cons (pv 0) (pa_cons (pv 1) pa_nil)))) rfl)
  (pss_cons (ps_dput (hu_of hr) (pv 0) pe_str pe_bl rfl)
  (pss_one (ps_dput (hu_of hr) (pv 0) pe_str pe_bl rfl))))), ?_⟩
  have hp := B.at
  obtain ⟨ln, td, sz, gl⟩ := sh
  have hs1 : asc ln := hs.1
  have hs2 : ln.length ≤ 60000 := hs.2
  simp only [tSeq, tAsg, tAnd, tOr, tNot, tTest, tB, tOp, tUn, tCB, tCons, tNil, tVar, tC, gName, rI0, rI, rU, rEq, rNe, rIxS, rIxL, rIxT, tRet, tRetN, tTup, tLst, tSl, tPart, tNoPart, rSlS, tIf, tNext, tDrop, tCall, tBM, tBM0, tAndV, tOrV, tNotV, tM0, tM1, gSub, rSetL, sFld, gCons_eq, gNil_eq, tDGet, sDPut, tMeth, tMake, tFld, tChain, tIsN, tNotN,
  List.set_cons_zero, List.set_cons_succ, exists_eq_left', exists_eq_left, exists_eq, V.int.injEq, V.str.injEq, V.bl.injEq, V.ref.injEq, List.cons.injEq, and_true, true_and, List.getElem?_cons_zero, List.getElem?_cons_succ, Option.some.injEq, List.append_nil, exists_and_left, cxOf_K, false_and, and_false, exists_false, false_or, or_false, exists_eq', exists_const, sg_eq, S_eq, S_toList, S_ne, tFor_eq, tLc_eq, iList_eq, iTup_eq, iRng1_eq, iStr_eq, decide_eq_true_eq, Bool.not_eq_true', decide_eq_false_iff_not, if_true, if_false, Bool.false_eq_true, reduceCtorEq, Bool.true_eq_false, decide_true, decide_false, lit_116_101_120_116, lit_116_105_101_100, lit_103_108_117_101_100, lit_, lit_32, start3_3]
  refine if_fin (fun σ' H' => σ' = [some (.ref q), some (.str (S w)), some (.bl c)] ∧ Qg q ⟨if !ln.isEmpty && (!c && !td) then ln ++ [32] else ln, td, sz, gl⟩ G H') ?_ ?_
  rotate_left
  · intro nx fin
    simp only [tSeq, tAsg, tAnd, tOr, tNot, tTest, tB, tOp, tUn, tCB, tCons, tNil, tVar, tC, gName, rI0, rI, rU, rEq, rNe, rIxS, rIxL, rIxT, tRet, tRetN, tTup, tLst, tSl, tPart, tNoPart, rSlS, tIf, tIfS, tNext, tDrop, tCall, tBM, tBM0, tAndV, tOrV, tNotV, tM0, tM1, gSub, rSetL, sFld, gCons_eq, gNil_eq, tDGet, sDPut, tMeth, tMake, tFld, tChain, tIsN, tNotN,
  List.set_cons_zero, List.set_cons_succ, exists_eq_left', exists_eq_left, exists_eq, V.int.injEq, V.str.injEq, V.bl.injEq, V.ref.injEq, List.cons.injEq, and_true, true_and, List.getElem?_cons_zero, List.getElem?_cons_succ, Option.some.injEq, List.append_nil, exists_and_left, cxOf_K, false_and, and_false, exists_false, false_or, or_false, exists_eq', exists_const, sg_eq, S_eq, S_toList, S_ne, tFor_eq, tLc_eq, iList_eq, iTup_eq, iRng1_eq, iStr_eq, decide_eq_true_eq, Bool.not_eq_true', decide_eq_false_iff_not, if_true, if_false, Bool.false_eq_true, reduceCtorEq, Bool.true_eq_false, decide_true, decide_false, rq_text hp, rq_tied hp, S_cat, wq_text hp]
    have yes : ∀ b : Bool, (!ln.isEmpty && (!c && !td)) = b → (b = true → nx [some (.ref q), some (.str (S w)), some (.bl c)] (upd H q (.dK (qf ⟨ln ++ [32], td, sz, gl⟩)))) ∧ (b = false → nx [some (.ref q), some (.str (S w)), some (.bl c)] H) := by
      intro b hb
      constructor
      · rintro rfl
        exact fin _ _ ⟨rfl, by rw [hb]; exact B.put⟩
      · rintro rfl
        exact fin _ _ ⟨rfl, by rw [hb]; exact B⟩
    have yes := yes _ rfl
    cases ln with
    | nil => exact ⟨rfl, by simp only [not_true_eq_false, if_false]; exact yes.2 rfl⟩
    | cons x r =>
      refine ⟨rfl, ?_⟩
      rw [if_pos (by simp)]
      cases td with
      | true => exact yes.2 (by cases c <;> rfl)
      | false =>
        cases c with
        | true => exact yes.2 rfl
        | false =>
          simp only [if_true]
          refine ⟨size_le (by simp only [S_len, List.length_cons, List.length_nil] at hs2 ⊢; omega), yes.1 rfl⟩
  rintro _ H1 ⟨rfl, B1⟩
  have hp1 := B1.at
  simp only [tSeq, tAsg, tAnd, tOr, tNot, tTest, tB, tOp, tUn, tCB, tCons, tNil, tVar, tC, gName, rI0, rI, rU, rEq, rNe, rIxS, rIxL, rIxT, tRet, tRetN, tTup, tLst, tSl, tPart, tNoPart, rSlS, tIf, tIfS, tNext, tDrop, tCall, tBM, tBM0, tAndV, tOrV, tNotV, tM0, tM1, gSub, rSetL, sFld, gCons_eq, gNil_eq, tDGet, sDPut, tMeth, tMake, tFld, tChain, tIsN, tNotN,
  List.set_cons_zero, List.set_cons_succ, exists_eq_left', exists_eq_left, exists_eq, V.int.injEq, V.str.injEq, V.bl.injEq, V.ref.injEq, List.cons.injEq, and_true, true_and, List.getElem?_cons_zero, List.getElem?_cons_succ, Option.some.injEq, List.append_nil, exists_and_left, cxOf_K, false_and, and_false, exists_false, false_or, or_false, exists_eq', exists_const, sg_eq, S_eq, S_toList, S_ne, tFor_eq, tLc_eq, iList_eq, iTup_eq, iRng1_eq, iStr_eq, decide_eq_true_eq, Bool.not_eq_true', decide_eq_false_iff_not, if_true, if_false, Bool.false_eq_true, reduceCtorEq, Bool.true_eq_false, decide_true, decide_false, rq_text hp1]
  have z : (if (!ln.isEmpty && (!c && !td)) = true then ln ++ [32] else ln).length ≤ 60001 := by
    split
    · rw [List.length_append, List.length_singleton]
      omega
    · omega
  refine ⟨q, _, G, w, rfl, B1, hw, h1, hl, fun H2 B2 => ⟨_, rfl, size_le (by rw [S_len, S_len, sized_len]; omega), ?_⟩⟩
  simp only [S_cat, wq_text B2.at, wuq_tied, wuq_glued, upd_upd]
  exact k _ B2.put
def sp_lcut : Sp := fun vs H Q _ => ∃ t : Tx, vs = [.str (S t)] ∧ asc t ∧ t.length ≤ 60000 ∧ Q (.int ((headL t).length : Int)) H
abbrev s_l_cut : Stmt := (top 24)
theorem sc_l_cut : FnScope ["_law_text", "_law_k"] ["_law_text"] (defScope s_l_cut) := ⟨rfl, rfl, rfl, by decide +kernel, rfl, by decide +kernel, by decide +kernel⟩

theorem ok_lcut {f : Addr} {fd : FuncData} (F : FunS K "_law_cut" s_l_cut f fd) (b_len : mg "len" = none) (c_l_small : Cal P w K mg base CX0 1 "_law_small" sp_small) : FnOk P w K mg base CX0 2 f fd ["_law_text"] sp_lcut := by
  refine F.ok sc_l_cut (fun vs H Q E h => ?_) (fun cdv A outer s H vs Q E hr h => ?_)
  · obtain ⟨t, rfl, _⟩ := h
    rfl
  obtain ⟨ln, rfl, hs1, hs2, k⟩ := h
  refine ⟨_, PSs.nox (pss_cons (ps_set (i := 1) sc_l_cut.nd rfl (.inl rfl) (pe_callB call_len_str (by rfl) b_len PySem.boot_len (pa_cons (pv 0) pa_nil)))
  (pss_cons (ps_while PassesOwn.never (PW.pt (pw_and (pt_cmpR op_gt (pv 1) pe_int (nomark _)) (pw_and1 (pt_val (pe_c c_l_small hr (by first | decide | omega) (by rfl) (pa_cons (pe_lower (pe_ix ix_str (pv 0) (pe_op op_sub (pv 1) pe_int) (fun _ _ => rfl))) pa_nil))))))
    (pss_one (ps_set (i := 1) sc_l_cut.nd rfl (.inl rfl) (pe_op op_sub (pv 1) pe_int))))
  (pss_one (ps_ret (pv 1))))), ?_⟩
  simp only [tSeq, tAsg, tAnd, tOr, tNot, tTest, tB, tOp, tUn, tCB, tCons, tNil, tVar, tC, gName, rI0, rI, rU, rEq, rNe, rIxS, rIxL, rIxT, tRet, tRetN, tTup, tLst, tSl, tPart, tNoPart, rSlS, tIf, tNext, tDrop, tCall, tBM, tBM0, tAndV, tOrV, tNotV, tM0, tM1, gSub, rSetL, sFld, gCons_eq, gNil_eq, tDGet, sDPut, tMeth, tMake, tFld, tChain, tIsN, tNotN,
  List.set_cons_zero, List.set_cons_succ, exists_eq_left', exists_eq_left, exists_eq, V.int.injEq, V.str.injEq, V.bl.injEq, V.ref.injEq, List.cons.injEq, and_true, true_and, List.getElem?_cons_zero, List.getElem?_cons_succ, Option.some.injEq, List.append_nil, exists_and_left, cxOf_K, false_and, and_false, exists_false, false_or, or_false, exists_eq', exists_const, sg_eq, S_eq, S_toList, S_ne, tFor_eq, tLc_eq, iList_eq, iTup_eq, iRng1_eq, iStr_eq, decide_eq_true_eq, Bool.not_eq_true', decide_eq_false_iff_not, if_true, if_false, Bool.false_eq_true, reduceCtorEq, Bool.true_eq_false, decide_true, decide_false, true_and, start1_2]
  have z : (S ln).length ≤ 60000 := by rw [S_len]; exact hs2
  refine ⟨Nat.le_trans z (by decide), ?_⟩
  refine loop_whileP (fun m σ H' => H' = H ∧ σ = [some (.str (S ln)), some (.int (m : Int))] ∧ m ≤ ln.length ∧ ∀ c ∈ ln.drop m, letr c = true) (S ln).length ⟨rfl, rfl, by rw [S_len]; exact Nat.le_refl _, fun c hc => by rw [S_len, List.drop_length] at hc; cases hc⟩ ?_
  rintro m σ _ ⟨rfl, rfl, hm, hc⟩
  match m, hm, hc with
  | 0, hm, hc =>
    refine ⟨false, fun R r => ?_, ?_⟩
    · simp only [tSeq, tAsg, tAnd, tOr, tNot, tTest, tB, tOp, tUn, tCB, tCons, tNil, tVar, tC, gName, rI0, rI, rU, rEq, rNe, rIxS, rIxL, rIxT, tRet, tRetN, tTup, tLst, tSl, tPart, tNoPart, rSlS, tIf, tIfS, tNext, tDrop, tCall, tBM, tBM0, tAndV, tOrV, tNotV, tM0, tM1, gSub, rSetL, sFld, gCons_eq, gNil_eq, tDGet, sDPut, tMeth, tMake, tFld, tChain, tIsN, tNotN,
  List.set_cons_zero, List.set_cons_succ, exists_eq_left', exists_eq_left, exists_eq, V.int.injEq, V.str.injEq, V.bl.injEq, V.ref.injEq, List.cons.injEq, and_true, true_and, List.getElem?_cons_zero, List.getElem?_cons_succ, Option.some.injEq, List.append_nil, exists_and_left, cxOf_K, false_and, and_false, exists_false, false_or, or_false, exists_eq', exists_const, sg_eq, S_eq, S_toList, S_ne, tFor_eq, tLc_eq, iList_eq, iTup_eq, iRng1_eq, iStr_eq, decide_eq_true_eq, Bool.not_eq_true', decide_eq_false_iff_not, if_true, if_false, Bool.false_eq_true, reduceCtorEq, Bool.true_eq_false, decide_true, decide_false]
      exact r
    · simp only [tSeq, tAsg, tAnd, tOr, tNot, tTest, tB, tOp, tUn, tCB, tCons, tNil, tVar, tC, gName, rI0, rI, rU, rEq, rNe, rIxS, rIxL, rIxT, tRet, tRetN, tTup, tLst, tSl, tPart, tNoPart, rSlS, tIf, tIfS, tNext, tDrop, tCall, tBM, tBM0, tAndV, tOrV, tNotV, tM0, tM1, gSub, rSetL, sFld, gCons_eq, gNil_eq, tDGet, sDPut, tMeth, tMake, tFld, tChain, tIsN, tNotN,
  List.set_cons_zero, List.set_cons_succ, exists_eq_left', exists_eq_left, exists_eq, V.int.injEq, V.str.injEq, V.bl.injEq, V.ref.injEq, List.cons.injEq, and_true, true_and, List.getElem?_cons_zero, List.getElem?_cons_succ, Option.some.injEq, List.append_nil, exists_and_left, cxOf_K, false_and, and_false, exists_false, false_or, or_false, exists_eq', exists_const, sg_eq, S_eq, S_toList, S_ne, tFor_eq, tLc_eq, iList_eq, iTup_eq, iRng1_eq, iStr_eq, decide_eq_true_eq, Bool.not_eq_true', decide_eq_false_iff_not, if_true, if_false, Bool.false_eq_true, reduceCtorEq, Bool.true_eq_false, decide_true, decide_false, if_false, Bool.false_eq_true]
      have e := split_at (a := []) (b := ln) hc (.inl rfl)
      rw [List.nil_append] at e
      have e2 : (headL ln).length = 0 := by rw [e.1]; rfl
      rw [e2] at k
      exact k
  | m + 1, hm, hc =>
    have hlt : m < ln.length := hm
    have e0 : ((m + 1 : Nat) : Int) - 1 = (m : Int) := by omega
    have elo : Txt.lower (S [ln[m]]) = S [PyProof.Rows.lo1 ln[m]] := lower_lo fun x hx => by
      rw [List.mem_singleton.mp hx]
      exact hs1 _ (List.getElem_mem hlt)
    refine ⟨letr ln[m], fun R r => ?_, ?_⟩
    · simp only [tSeq, tAsg, tAnd, tOr, tNot, tTest, tB, tOp, tUn, tCB, tCons, tNil, tVar, tC, gName, rI0, rI, rU, rEq, rNe, rIxS, rIxL, rIxT, tRet, tRetN, tTup, tLst, tSl, tPart, tNoPart, rSlS, tIf, tIfS, tNext, tDrop, tCall, tBM, tBM0, tAndV, tOrV, tNotV, tM0, tM1, gSub, rSetL, sFld, gCons_eq, gNil_eq, tDGet, sDPut, tMeth, tMake, tFld, tChain, tIsN, tNotN,
  List.set_cons_zero, List.set_cons_succ, exists_eq_left', exists_eq_left, exists_eq, V.int.injEq, V.str.injEq, V.bl.injEq, V.ref.injEq, List.cons.injEq, and_true, true_and, List.getElem?_cons_zero, List.getElem?_cons_succ, Option.some.injEq, List.append_nil, exists_and_left, cxOf_K, false_and, and_false, exists_false, false_or, or_false, exists_eq', exists_const, sg_eq, S_eq, S_toList, S_ne, tFor_eq, tLc_eq, iList_eq, iTup_eq, iRng1_eq, iStr_eq, decide_eq_true_eq, Bool.not_eq_true', decide_eq_false_iff_not, if_true, if_false, Bool.false_eq_true, reduceCtorEq, Bool.true_eq_false, decide_true, decide_false, e0]
      rw [if_pos (by omega)]
      exact ⟨size_le (by omega), _, atI_nat (List.getElem?_eq_getElem hlt), Nat.le_trans (by rw [S_len]; simp : (S [ln[m]]).length ≤ 1) (by decide), _, congrArg (fun z => [V.str z]) elo, _, rfl, r⟩
    · cases hl : letr ln[m] with
      | true =>
        simp only [if_true, tSeq, tAsg, tAnd, tOr, tNot, tTest, tB, tOp, tUn, tCB, tCons, tNil, tVar, tC, gName, rI0, rI, rU, rEq, rNe, rIxS, rIxL, rIxT, tRet, tRetN, tTup, tLst, tSl, tPart, tNoPart, rSlS, tIf, tIfS, tNext, tDrop, tCall, tBM, tBM0, tAndV, tOrV, tNotV, tM0, tM1, gSub, rSetL, sFld, gCons_eq, gNil_eq, tDGet, sDPut, tMeth, tMake, tFld, tChain, tIsN, tNotN,
  List.set_cons_zero, List.set_cons_succ, exists_eq_left', exists_eq_left, exists_eq, V.int.injEq, V.str.injEq, V.bl.injEq, V.ref.injEq, List.cons.injEq, and_true, true_and, List.getElem?_cons_zero, List.getElem?_cons_succ, Option.some.injEq, List.append_nil, exists_and_left, cxOf_K, false_and, and_false, exists_false, false_or, or_false, exists_eq', exists_const, sg_eq, S_eq, S_toList, S_ne, tFor_eq, tLc_eq, iList_eq, iTup_eq, iRng1_eq, iStr_eq, decide_eq_true_eq, Bool.not_eq_true', decide_eq_false_iff_not, if_true, if_false, Bool.false_eq_true, reduceCtorEq, Bool.true_eq_false, decide_true, decide_false, e0]
        refine ⟨m, by omega, by omega, by omega, fun c h => ?_⟩
        rw [List.drop_eq_getElem_cons hlt] at h
        rcases List.mem_cons.mp h with h | h
        · rw [h]
          exact hl
        · exact hc c h
      | false =>
        simp only [if_false, Bool.false_eq_true, tSeq, tAsg, tAnd, tOr, tNot, tTest, tB, tOp, tUn, tCB, tCons, tNil, tVar, tC, gName, rI0, rI, rU, rEq, rNe, rIxS, rIxL, rIxT, tRet, tRetN, tTup, tLst, tSl, tPart, tNoPart, rSlS, tIf, tIfS, tNext, tDrop, tCall, tBM, tBM0, tAndV, tOrV, tNotV, tM0, tM1, gSub, rSetL, sFld, gCons_eq, gNil_eq, tDGet, sDPut, tMeth, tMake, tFld, tChain, tIsN, tNotN,
  List.set_cons_zero, List.set_cons_succ, exists_eq_left', exists_eq_left, exists_eq, V.int.injEq, V.str.injEq, V.bl.injEq, V.ref.injEq, List.cons.injEq, and_true, true_and, List.getElem?_cons_zero, List.getElem?_cons_succ, Option.some.injEq, List.append_nil, exists_and_left, cxOf_K, false_and, and_false, exists_false, false_or, or_false, exists_eq', exists_const, sg_eq, S_eq, S_toList, S_ne, tFor_eq, tLc_eq, iList_eq, iTup_eq, iRng1_eq, iStr_eq, decide_eq_true_eq, Bool.not_eq_true', decide_eq_false_iff_not, if_true, if_false, Bool.false_eq_true, reduceCtorEq, Bool.true_eq_false, decide_true, decide_false]
        have e := split_at (a := ln.take (m + 1)) (b := ln.drop (m + 1)) hc (.inr ⟨ln.take m, ln[m], by rw [List.take_succ_eq_append_getElem hlt], hl⟩)
        rw [List.take_append_drop] at e
        have e2 : (headL ln).length = m + 1 := by
          rw [e.1, List.length_take]
          omega
        rw [e2] at k
        exact k
theorem cutL_head (t : Tx) : cutS (S t) none (some ((headL t).length : Int)) = S (headL t) := by
  have e9 : (headL t ++ tailL t).take (headL t).length = headL t := List.take_left
  rw [head_tail] at e9
  rw [cutS_S, cutL_to, e9]
theorem cutL_tail (t : Tx) : cutS (S t) (some ((headL t).length : Int)) none = S (tailL t) := by
  have e9 : (headL t ++ tailL t).drop (headL t).length = tailL t := List.drop_left
  rw [head_tail] at e9
  rw [cutS_S, cutL_from, e9]
def sp_ljoin (K : PySem.W.Frag) : Sp := fun vs H Q _ => ∃ (q : Addr) (s : Sh) (G : Hp) (a : Addr) (w : Tx) (l r : Bool), vs = [.ref q, .ref a] ∧ Qg q s G H ∧ SqT K G a [.str (S wJoin), .str (S w), .bl l, .bl r] ∧ shOk 50000 s ∧ asc w ∧ w.length ≤ 70 ∧ ∀ H', Qg q (joinS s w l r) G H' → Q .non H'
abbrev s_l_join : Stmt := (top 25)
theorem sc_l_join : FnScope ["_law_s", "_law_action_here", "_law_word_here", "_law_k"] ["_law_s", "_law_action_here"] (defScope s_l_join) := ⟨rfl, rfl, rfl, by decide +kernel, rfl, by decide +kernel, by decide +kernel⟩

theorem ok_ljoin {f : Addr} {fd : FuncData} (F : FunS K "_law_join" s_l_join f fd) (b_len : mg "len" = none) (c_l_cut : Cal P w K mg base CX0 2 "_law_cut" sp_lcut) (c_l_small : Cal P w K mg base CX0 1 "_law_small" sp_small) (c_l_joined : Cal P w K mg base CX0 2 "_law_joined" sp_ljoined) (c_l_put : Cal P w K mg base CX0 2 "_law_put" sp_lput) : FnOk P w K mg base CX0 4 f fd ["_law_s", "_law_action_here"] (sp_ljoin K) := by
  refine F.ok sc_l_join (fun vs H Q E h => ?_) (fun cdv A outer s H vs Q E hr h => ?_)
  · obtain ⟨q, s, G, a, w, l, r, rfl, _⟩ := h
    rfl
  obtain ⟨q, sh, G, a, w, l, r, rfl, B, ht, hs, hw, hl, k⟩ := h
  refine ⟨_, PSs.nox (pss_cons (ps_set (i := 2) sc_l_join.nd rfl (.inl rfl) (pe_ix ix_tup (pv 1) pe_int (fun _ _ => rfl)))
  (pss_cons (ps_if (PW.pt (pw_and (pt_cmpR op_ne (pv 2) pe_str (nomark _)) (pw_and1 (pt_val (pe_ix ix_tup (pv 1) pe_int (fun _ _ => rfl))))))
    (pss_cons (ps_set (i := 3) sc_l_join.nd rfl (.inl rfl) (pe_c c_l_cut hr (by first | decide | omega) (by rfl) (pa_cons (pe_dget (hu_of hr) (pv 0) pe_str (fun _ _ => rfl)) pa_nil)))
  (pss_one (ps_if (PW.pt (pw_and (pt_cmpR op_lt (pv 3) (pe_callB call_len_str (by rfl) b_len PySem.boot_len (pa_cons (pe_dget (hu_of hr) (pv 0) pe_str (fun _ _ => rfl)) pa_nil)) (nomark _)) (pw_and1 (pt_val (pe_c c_l_small hr (by first | decide | omega) (by rfl) (pa_cons (pe_ix ix_str (pv 2) pe_int (fun _ _ => rfl)) pa_nil))))))
    (pss_one (ps_dput (hu_of hr) (pv 0) pe_str (pe_op op_add_str (pe_slice sl_str (pe_dget (hu_of hr) (pv 0) pe_str (fun _ _ => rfl)) po_none (po_some (pv 3))) (pe_c c_l_joined hr (by first | decide | omega) (by rfl) (pa_cons (pe_slice sl_str (pe_dget (hu_of hr) (pv 0) pe_str (fun _ _ => rfl)) (po_some (pv 3)) po_none) (pa_cons (pv 2) pa_nil)))) rfl))
    (pss_one (ps_dput (hu_of hr) (pv 0) pe_str (pe_op op_add_str (pe_dget (hu_of hr) (pv 0) pe_str (fun _ _ => rfl)) (pv 2)) rfl)))))
    (pss_one (ps_if (pt_cmpR op_ne (pv 2) pe_str (nomark _))
    (pss_one (ps_expr (pe_c c_l_put hr (by first | decide | omega) (by rfl) (pa_cons (pv 0) (pa_cons (pv 2) (pa_cons pe_bl pa_nil))))))
    pss_nil)))
  (pss_cons (ps_dput (hu_of hr) (pv 0) pe_str (pe_ix ix_tup (pv 1) pe_int (fun _ _ => rfl)) rfl)
  (pss_one (ps_dput (hu_of hr) (pv 0) pe_str pe_bl rfl))))), ?_⟩
  have hp := B.at
  have tn := tail_len sh.line
  have hs2 := hs.2
  simp only [tSeq, tAsg, tAnd, tOr, tNot, tTest, tB, tOp, tUn, tCB, tCons, tNil, tVar, tC, gName, rI0, rI, rU, rEq, rNe, rIxS, rIxL, rIxT, tRet, tRetN, tTup, tLst, tSl, tPart, tNoPart, rSlS, tIf, tNext, tDrop, tCall, tBM, tBM0, tAndV, tOrV, tNotV, tM0, tM1, gSub, rSetL, sFld, gCons_eq, gNil_eq, tDGet, sDPut, tMeth, tMake, tFld, tChain, tIsN, tNotN,
  List.set_cons_zero, List.set_cons_succ, exists_eq_left', exists_eq_left, exists_eq, V.int.injEq, V.str.injEq, V.bl.injEq, V.ref.injEq, List.cons.injEq, and_true, true_and, List.getElem?_cons_zero, List.getElem?_cons_succ, Option.some.injEq, List.append_nil, exists_and_left, cxOf_K, false_and, and_false, exists_false, false_or, or_false, exists_eq', exists_const, sg_eq, S_eq, S_toList, S_ne, tFor_eq, tLc_eq, iList_eq, iTup_eq, iRng1_eq, iStr_eq, decide_eq_true_eq, Bool.not_eq_true', decide_eq_false_iff_not, if_true, if_false, Bool.false_eq_true, reduceCtorEq, Bool.true_eq_false, decide_true, decide_false, lit_116_105_101_100, lit_103_108_117_101_100, lit_, lit_116_101_120_116, start2_4]
  refine ⟨_, sqt_of ht B.1, _, atI_nat (j := 1) rfl, ?_⟩
  refine if_fin (fun σ' H' => ∃ y, σ' = [some (.ref q), some (.ref a), some (.str (S w)), y] ∧ ∃ s', Qg q s' G H' ∧ { s' with tied := r, glued := false } = joinS sh w l r) ?_ ?_
  rotate_left
  · intro nx fin
    cases w with
    | nil =>
      simp only [tSeq, tAsg, tAnd, tOr, tNot, tTest, tB, tOp, tUn, tCB, tCons, tNil, tVar, tC, gName, rI0, rI, rU, rEq, rNe, rIxS, rIxL, rIxT, tRet, tRetN, tTup, tLst, tSl, tPart, tNoPart, rSlS, tIf, tIfS, tNext, tDrop, tCall, tBM, tBM0, tAndV, tOrV, tNotV, tM0, tM1, gSub, rSetL, sFld, gCons_eq, gNil_eq, tDGet, sDPut, tMeth, tMake, tFld, tChain, tIsN, tNotN,
  List.set_cons_zero, List.set_cons_succ, exists_eq_left', exists_eq_left, exists_eq, V.int.injEq, V.str.injEq, V.bl.injEq, V.ref.injEq, List.cons.injEq, and_true, true_and, List.getElem?_cons_zero, List.getElem?_cons_succ, Option.some.injEq, List.append_nil, exists_and_left, cxOf_K, false_and, and_false, exists_false, false_or, or_false, exists_eq', exists_const, sg_eq, S_eq, S_toList, S_ne, tFor_eq, tLc_eq, iList_eq, iTup_eq, iRng1_eq, iStr_eq, decide_eq_true_eq, Bool.not_eq_true', decide_eq_false_iff_not, if_true, if_false, Bool.false_eq_true, reduceCtorEq, Bool.true_eq_false, decide_true, decide_false, not_true_eq_false, if_false]
      exact ⟨rfl, rfl, fin _ _ ⟨_, rfl, sh, B, rfl⟩⟩
    | cons f t =>
      have h1 : ¬ (f :: t = []) := fun z => nomatch z
      rw [List.length_cons] at hl
      cases l with
      | false =>
        simp only [tSeq, tAsg, tAnd, tOr, tNot, tTest, tB, tOp, tUn, tCB, tCons, tNil, tVar, tC, gName, rI0, rI, rU, rEq, rNe, rIxS, rIxL, rIxT, tRet, tRetN, tTup, tLst, tSl, tPart, tNoPart, rSlS, tIf, tIfS, tNext, tDrop, tCall, tBM, tBM0, tAndV, tOrV, tNotV, tM0, tM1, gSub, rSetL, sFld, gCons_eq, gNil_eq, tDGet, sDPut, tMeth, tMake, tFld, tChain, tIsN, tNotN,
  List.set_cons_zero, List.set_cons_succ, exists_eq_left', exists_eq_left, exists_eq, V.int.injEq, V.str.injEq, V.bl.injEq, V.ref.injEq, List.cons.injEq, and_true, true_and, List.getElem?_cons_zero, List.getElem?_cons_succ, Option.some.injEq, List.append_nil, exists_and_left, cxOf_K, false_and, and_false, exists_false, false_or, or_false, exists_eq', exists_const, sg_eq, S_eq, S_toList, S_ne, tFor_eq, tLc_eq, iList_eq, iTup_eq, iRng1_eq, iStr_eq, decide_eq_true_eq, Bool.not_eq_true', decide_eq_false_iff_not, if_true, if_false, Bool.false_eq_true, reduceCtorEq, Bool.true_eq_false, decide_true, decide_false, h1, not_false_eq_true, if_true]
        refine ⟨rfl, _, sqt_of ht B.1, _, atI_nat (j := 2) rfl, false, rfl, ?_⟩
        rw [if_neg (fun z => nomatch z)]
        exact ⟨rfl, q, sh, G, _, false, rfl, B, hs.mono (by decide), hw, by simp, hl, fun H1 B1 => fin _ _ ⟨_, rfl, _, B1, rfl⟩⟩
      | true =>
        refine if_pure true (fun R rr => ?_) (fun _ => ?_) (fun z => nomatch z)
        · simp only [tSeq, tAsg, tAnd, tOr, tNot, tTest, tB, tOp, tUn, tCB, tCons, tNil, tVar, tC, gName, rI0, rI, rU, rEq, rNe, rIxS, rIxL, rIxT, tRet, tRetN, tTup, tLst, tSl, tPart, tNoPart, rSlS, tIf, tIfS, tNext, tDrop, tCall, tBM, tBM0, tAndV, tOrV, tNotV, tM0, tM1, gSub, rSetL, sFld, gCons_eq, gNil_eq, tDGet, sDPut, tMeth, tMake, tFld, tChain, tIsN, tNotN,
  List.set_cons_zero, List.set_cons_succ, exists_eq_left', exists_eq_left, exists_eq, V.int.injEq, V.str.injEq, V.bl.injEq, V.ref.injEq, List.cons.injEq, and_true, true_and, List.getElem?_cons_zero, List.getElem?_cons_succ, Option.some.injEq, List.append_nil, exists_and_left, cxOf_K, false_and, and_false, exists_false, false_or, or_false, exists_eq', exists_const, sg_eq, S_eq, S_toList, S_ne, tFor_eq, tLc_eq, iList_eq, iTup_eq, iRng1_eq, iStr_eq, decide_eq_true_eq, Bool.not_eq_true', decide_eq_false_iff_not, if_true, if_false, Bool.false_eq_true, reduceCtorEq, Bool.true_eq_false, decide_true, decide_false, h1, not_false_eq_true, if_true]
          exact ⟨rfl, _, sqt_of ht B.1, _, atI_nat (j := 2) rfl, true, rfl, rr⟩
        simp only [tSeq, tAsg, tAnd, tOr, tNot, tTest, tB, tOp, tUn, tCB, tCons, tNil, tVar, tC, gName, rI0, rI, rU, rEq, rNe, rIxS, rIxL, rIxT, tRet, tRetN, tTup, tLst, tSl, tPart, tNoPart, rSlS, tIf, tNext, tDrop, tCall, tBM, tBM0, tAndV, tOrV, tNotV, tM0, tM1, gSub, rSetL, sFld, gCons_eq, gNil_eq, tDGet, sDPut, tMeth, tMake, tFld, tChain, tIsN, tNotN,
  List.set_cons_zero, List.set_cons_succ, exists_eq_left', exists_eq_left, exists_eq, V.int.injEq, V.str.injEq, V.bl.injEq, V.ref.injEq, List.cons.injEq, and_true, true_and, List.getElem?_cons_zero, List.getElem?_cons_succ, Option.some.injEq, List.append_nil, exists_and_left, cxOf_K, false_and, and_false, exists_false, false_or, or_false, exists_eq', exists_const, sg_eq, S_eq, S_toList, S_ne, tFor_eq, tLc_eq, iList_eq, iTup_eq, iRng1_eq, iStr_eq, decide_eq_true_eq, Bool.not_eq_true', decide_eq_false_iff_not, if_true, if_false, Bool.false_eq_true, reduceCtorEq, Bool.true_eq_false, decide_true, decide_false, rq_text hp]
        refine ⟨sh.line, rfl, hs.1, Nat.le_trans hs.2 (by decide), ?_⟩
        refine if_pure (!(tailL sh.line).isEmpty && small f) (fun R rr => ?_) (fun e => ?_) (fun e => ?_)
        · simp only [tSeq, tAsg, tAnd, tOr, tNot, tTest, tB, tOp, tUn, tCB, tCons, tNil, tVar, tC, gName, rI0, rI, rU, rEq, rNe, rIxS, rIxL, rIxT, tRet, tRetN, tTup, tLst, tSl, tPart, tNoPart, rSlS, tIf, tIfS, tNext, tDrop, tCall, tBM, tBM0, tAndV, tOrV, tNotV, tM0, tM1, gSub, rSetL, sFld, gCons_eq, gNil_eq, tDGet, sDPut, tMeth, tMake, tFld, tChain, tIsN, tNotN,
  List.set_cons_zero, List.set_cons_succ, exists_eq_left', exists_eq_left, exists_eq, V.int.injEq, V.str.injEq, V.bl.injEq, V.ref.injEq, List.cons.injEq, and_true, true_and, List.getElem?_cons_zero, List.getElem?_cons_succ, Option.some.injEq, List.append_nil, exists_and_left, cxOf_K, false_and, and_false, exists_false, false_or, or_false, exists_eq', exists_const, sg_eq, S_eq, S_toList, S_ne, tFor_eq, tLc_eq, iList_eq, iTup_eq, iRng1_eq, iStr_eq, decide_eq_true_eq, Bool.not_eq_true', decide_eq_false_iff_not, if_true, if_false, Bool.false_eq_true, reduceCtorEq, Bool.true_eq_false, decide_true, decide_false, rq_text hp]
          refine ⟨size_le (by rw [S_len]; omega), ?_⟩
          have e1 : (((headL sh.line).length : Int) < ((S sh.line).length : Int)) ↔ (tailL sh.line) ≠ [] := by
            rw [S_len, ← List.length_pos_iff]
            omega
          cases htl : tailL sh.line with
          | nil =>
            rw [htl] at rr
            rw [if_neg (fun z => e1.mp z htl)]
            exact rr
          | cons x y =>
            rw [htl] at rr
            rw [if_pos (e1.mpr (by rw [htl]; exact fun z => nomatch z))]
            exact ⟨(size_le (by (try simp only [S_len, List.length_append, List.length_cons, List.length_nil]); omega)), _, atI_nat (j := 0) rfl, f, rfl, _, rfl, rr⟩
        · simp only [tSeq, tAsg, tAnd, tOr, tNot, tTest, tB, tOp, tUn, tCB, tCons, tNil, tVar, tC, gName, rI0, rI, rU, rEq, rNe, rIxS, rIxL, rIxT, tRet, tRetN, tTup, tLst, tSl, tPart, tNoPart, rSlS, tIf, tIfS, tNext, tDrop, tCall, tBM, tBM0, tAndV, tOrV, tNotV, tM0, tM1, gSub, rSetL, sFld, gCons_eq, gNil_eq, tDGet, sDPut, tMeth, tMake, tFld, tChain, tIsN, tNotN,
  List.set_cons_zero, List.set_cons_succ, exists_eq_left', exists_eq_left, exists_eq, V.int.injEq, V.str.injEq, V.bl.injEq, V.ref.injEq, List.cons.injEq, and_true, true_and, List.getElem?_cons_zero, List.getElem?_cons_succ, Option.some.injEq, List.append_nil, exists_and_left, cxOf_K, false_and, and_false, exists_false, false_or, or_false, exists_eq', exists_const, sg_eq, S_eq, S_toList, S_ne, tFor_eq, tLc_eq, iList_eq, iTup_eq, iRng1_eq, iStr_eq, decide_eq_true_eq, Bool.not_eq_true', decide_eq_false_iff_not, if_true, if_false, Bool.false_eq_true, reduceCtorEq, Bool.true_eq_false, decide_true, decide_false, rq_text hp, cutL_head, cutL_tail]
          rw [Bool.and_eq_true] at e
          obtain ⟨u, d, hu⟩ : ∃ u d, tailL sh.line = u ++ [d] := by
            rcases List.eq_nil_or_concat (tailL sh.line) with h | ⟨u, d, h⟩
            · rw [h] at e
              exact absurd e.1 (by decide)
            · exact ⟨u, d, h.trans List.concat_eq_append⟩
          have hc := tail_letr sh.line
          have hul := tn
          rw [hu, List.length_append, List.length_singleton] at hul
          rw [hu] at hc
          have jp : jPre u d f t := ⟨by omega, by omega, fun c h => hc c (List.mem_append_left _ h), hc d (List.mem_append_right _ List.mem_cons_self), e.2⟩
          have hj := jo_len u d f t
          refine ⟨size_le (by rw [S_len]; omega), size_le (by rw [S_len]; omega), u, d, f, t, by rw [hu], jp, fun H1 s1 => ⟨_, rfl, size_le (by rw [S_len, S_len]; omega), ?_⟩⟩
          have B1 := B.same s1
          rw [S_cat, wq_text B1.at]
          have e4 : (endS sh (f :: t)).line = headL sh.line ++ jo u d f t := by
            have e5 : (endS sh (f :: t)).line = if !(tailL sh.line).isEmpty && small f then headL sh.line ++ joinW (tailL sh.line) (f :: t) else sh.line ++ f :: t := rfl
            rw [e5, if_pos (by rw [Bool.and_eq_true]; exact e), hu, joinW_eq]
          refine fin _ _ ⟨_, rfl, _, B1.put, ?_⟩
          rw [← e4]
          rfl
        · simp only [tSeq, tAsg, tAnd, tOr, tNot, tTest, tB, tOp, tUn, tCB, tCons, tNil, tVar, tC, gName, rI0, rI, rU, rEq, rNe, rIxS, rIxL, rIxT, tRet, tRetN, tTup, tLst, tSl, tPart, tNoPart, rSlS, tIf, tIfS, tNext, tDrop, tCall, tBM, tBM0, tAndV, tOrV, tNotV, tM0, tM1, gSub, rSetL, sFld, gCons_eq, gNil_eq, tDGet, sDPut, tMeth, tMake, tFld, tChain, tIsN, tNotN,
  List.set_cons_zero, List.set_cons_succ, exists_eq_left', exists_eq_left, exists_eq, V.int.injEq, V.str.injEq, V.bl.injEq, V.ref.injEq, List.cons.injEq, and_true, true_and, List.getElem?_cons_zero, List.getElem?_cons_succ, Option.some.injEq, List.append_nil, exists_and_left, cxOf_K, false_and, and_false, exists_false, false_or, or_false, exists_eq', exists_const, sg_eq, S_eq, S_toList, S_ne, tFor_eq, tLc_eq, iList_eq, iTup_eq, iRng1_eq, iStr_eq, decide_eq_true_eq, Bool.not_eq_true', decide_eq_false_iff_not, if_true, if_false, Bool.false_eq_true, reduceCtorEq, Bool.true_eq_false, decide_true, decide_false, rq_text hp, S_cat, wq_text hp]
          refine ⟨size_le (by rw [S_len, S_len, List.length_cons]; omega), ?_⟩
          have e4 : (endS sh (f :: t)).line = sh.line ++ f :: t := by
            have e5 : (endS sh (f :: t)).line = if !(tailL sh.line).isEmpty && small f then headL sh.line ++ joinW (tailL sh.line) (f :: t) else sh.line ++ f :: t := rfl
            rw [e5, if_neg (by rw [e]; decide)]
          refine fin _ _ ⟨_, rfl, _, B.put, ?_⟩
          rw [← e4]
          rfl
  rintro _ H1 ⟨y, rfl, s', B1, e1⟩
  simp only [tSeq, tAsg, tAnd, tOr, tNot, tTest, tB, tOp, tUn, tCB, tCons, tNil, tVar, tC, gName, rI0, rI, rU, rEq, rNe, rIxS, rIxL, rIxT, tRet, tRetN, tTup, tLst, tSl, tPart, tNoPart, rSlS, tIf, tIfS, tNext, tDrop, tCall, tBM, tBM0, tAndV, tOrV, tNotV, tM0, tM1, gSub, rSetL, sFld, gCons_eq, gNil_eq, tDGet, sDPut, tMeth, tMake, tFld, tChain, tIsN, tNotN,
  List.set_cons_zero, List.set_cons_succ, exists_eq_left', exists_eq_left, exists_eq, V.int.injEq, V.str.injEq, V.bl.injEq, V.ref.injEq, List.cons.injEq, and_true, true_and, List.getElem?_cons_zero, List.getElem?_cons_succ, Option.some.injEq, List.append_nil, exists_and_left, cxOf_K, false_and, and_false, exists_false, false_or, or_false, exists_eq', exists_const, sg_eq, S_eq, S_toList, S_ne, tFor_eq, tLc_eq, iList_eq, iTup_eq, iRng1_eq, iStr_eq, decide_eq_true_eq, Bool.not_eq_true', decide_eq_false_iff_not, if_true, if_false, Bool.false_eq_true, reduceCtorEq, Bool.true_eq_false, decide_true, decide_false]
  refine ⟨_, sqt_of ht B1.1, _, atI_nat (j := 3) rfl, ?_⟩
  simp only [wq_tied B1.at, wuq_glued, upd_upd]
  have k2 := k (upd H1 q (.dK (qf { s' with tied := r, glued := false })))
  rw [← e1] at k2
  exact k2 B1.put
def sp_ldo (K : PySem.W.Frag) : Sp := fun vs H Q _ => ∃ (q : Addr) (s : Sh) (G : Hp) (v : V) (a : Act), vs = [.ref q, v] ∧ Qg q s G H ∧ shOk 50000 s ∧ Dp K G v (actD a) ∧ actOk a ∧ ∀ H', Qg q (doA s a) G H' → Q .non H'
abbrev s_l_do : Stmt := (top 26)
theorem sc_l_do : FnScope ["_law_s", "_law_action_here", "_law_kind", "_law_k"] ["_law_s", "_law_action_here"] (defScope s_l_do) := ⟨rfl, rfl, rfl, by decide +kernel, rfl, by decide +kernel, by decide +kernel⟩

theorem ok_ldo {f : Addr} {fd : FuncData} (F : FunS K "_law_do" s_l_do f fd) (b_len : mg "len" = none) (c_l_put : Cal P w K mg base CX0 2 "_law_put" sp_lput) (c_l_join : Cal P w K mg base CX0 4 "_law_join" (sp_ljoin K)) (c_l_cut : Cal P w K mg base CX0 2 "_law_cut" sp_lcut) : FnOk P w K mg base CX0 5 f fd ["_law_s", "_law_action_here"] (sp_ldo K) := by
  refine F.ok sc_l_do (fun vs H Q E h => ?_) (fun cdv A outer s H vs Q E hr h => ?_)
  · obtain ⟨q, s, G, v, a, rfl, _⟩ := h
    rfl
  obtain ⟨q, sh, G, v, a, rfl, B, hs, hd, ha, k⟩ := h
  refine ⟨_, PSs.nox (pss_cons (ps_set (i := 2) sc_l_do.nd rfl (.inl rfl) (pe_ix ix_tup (pv 1) pe_int (fun _ _ => rfl)))
  (pss_one (ps_if (pt_cmpR op_eq (pv 2) pe_str (nomark _))
    (pss_one (ps_expr (pe_c c_l_put hr (by first | decide | omega) (by rfl) (pa_cons (pv 0) (pa_cons (pe_ix ix_tup (pv 1) pe_int (fun _ _ => rfl)) (pa_cons pe_bl pa_nil))))))
    (pss_one (ps_if (pt_cmpR op_eq (pv 2) pe_str (nomark _))
    (pss_cons (ps_expr (pe_c c_l_put hr (by first | decide | omega) (by rfl) (pa_cons (pv 0) (pa_cons (pe_ix ix_tup (pv 1) pe_int (fun _ _ => rfl)) (pa_cons (pe_dget (hu_of hr) (pv 0) pe_str (fun _ _ => rfl)) pa_nil)))))
  (pss_one (ps_dput (hu_of hr) (pv 0) pe_str pe_bl rfl)))
    (pss_one (ps_if (pt_cmpR op_eq (pv 2) pe_str (nomark _))
    (pss_one (ps_expr (pe_c c_l_join hr (by first | decide | omega) (by rfl) (pa_cons (pv 0) (pa_cons (pv 1) pa_nil)))))
    (pss_one (ps_if (pt_cmpR op_eq (pv 2) pe_str (nomark _))
    (pss_cons (ps_dput (hu_of hr) (pv 0) pe_str (pe_op op_add_str (pe_dget (hu_of hr) (pv 0) pe_str (fun _ _ => rfl)) (pe_ix ix_tup (pv 1) pe_int (fun _ _ => rfl))) rfl)
  (pss_cons (ps_dput (hu_of hr) (pv 0) pe_str pe_bl rfl)
  (pss_cons (ps_dput (hu_of hr) (pv 0) pe_str pe_bl rfl)
  (pss_one (ps_if (pt_cmpR op_in_seq (pe_ix ix_tup (pv 1) pe_int (fun _ _ => rfl)) (pe_tup (pa_cons pe_str (pa_cons pe_str (pa_cons pe_str pa_nil)))) (by rfl))
    (pss_one (ps_dput (hu_of hr) (pv 0) pe_str pe_str rfl))
    pss_nil)))))
    (pss_one (ps_if (pt_cmpR op_eq (pv 2) pe_str (nomark _))
    (pss_cons (ps_set (i := 3) sc_l_do.nd rfl (.inl rfl) (pe_c c_l_cut hr (by first | decide | omega) (by rfl) (pa_cons (pe_dget (hu_of hr) (pv 0) pe_str (fun _ _ => rfl)) pa_nil)))
  (pss_one (ps_if (pt_cmpR op_lt (pv 3) (pe_callB call_len_str (by rfl) b_len PySem.boot_len (pa_cons (pe_dget (hu_of hr) (pv 0) pe_str (fun _ _ => rfl)) pa_nil)) (nomark _))
    (pss_one (ps_dput (hu_of hr) (pv 0) pe_str (pe_op op_add_str (pe_op op_add_str (pe_slice sl_str (pe_dget (hu_of hr) (pv 0) pe_str (fun _ _ => rfl)) po_none (po_some (pv 3))) (pe_upper (pe_ix ix_str (pe_dget (hu_of hr) (pv 0) pe_str (fun _ _ => rfl)) (pv 3) (fun _ _ => rfl)))) (pe_slice sl_str (pe_dget (hu_of hr) (pv 0) pe_str (fun _ _ => rfl)) (po_some (pe_op op_add (pv 3) pe_int)) po_none)) rfl))
    pss_nil)))
    (pss_one (ps_if (pt_cmpR op_in_seq (pv 2) (pe_tup (pa_cons pe_str (pa_cons pe_str pa_nil))) (by rfl))
    (pss_one (ps_dput (hu_of hr) (pv 0) pe_str (pv 2) rfl))
    pss_nil))))))))))))), ?_⟩
  have hp := B.at
  simp only [tSeq, tAsg, tAnd, tOr, tNot, tTest, tB, tOp, tUn, tCB, tCons, tNil, tVar, tC, gName, rI0, rI, rU, rEq, rNe, rIxS, rIxL, rIxT, tRet, tRetN, tTup, tLst, tSl, tPart, tNoPart, rSlS, tIf, tNext, tDrop, tCall, tBM, tBM0, tAndV, tOrV, tNotV, tM0, tM1, gSub, rSetL, sFld, gCons_eq, gNil_eq, tDGet, sDPut, tMeth, tMake, tFld, tChain, tIsN, tNotN,
  List.set_cons_zero, List.set_cons_succ, exists_eq_left', exists_eq_left, exists_eq, V.int.injEq, V.str.injEq, V.bl.injEq, V.ref.injEq, List.cons.injEq, and_true, true_and, List.getElem?_cons_zero, List.getElem?_cons_succ, Option.some.injEq, List.append_nil, exists_and_left, cxOf_K, false_and, and_false, exists_false, false_or, or_false, exists_eq', exists_const, sg_eq, S_eq, S_toList, S_ne, tFor_eq, tLc_eq, iList_eq, iTup_eq, iRng1_eq, iStr_eq, decide_eq_true_eq, Bool.not_eq_true', decide_eq_false_iff_not, if_true, if_false, Bool.false_eq_true, reduceCtorEq, Bool.true_eq_false, decide_true, decide_false, lit_119_111_114_100, lit_103_108_117_101, lit_103_108_117_101_100, lit_106_111_105_110, lit_115_116_111_112, lit_116_101_120_116, lit_116_105_101_100, lit_103_114_101_97_116, lit_108_97_115_116, lit_46, lit_63, lit_33, lit_115_105_122_101, lit_97_108_108, start2_4]
  have ln2 := hs.2
  cases a with
  | word t =>
    obtain ⟨p, rfl, hq⟩ := dp2 hd
    have ht : wordOk t := ha
    have h16 := ht.2.1
    refine ⟨p, rfl, _, sqt_of hq B.1, _, atI_nat (j := 0) rfl, ?_⟩
    simp only [tSeq, tAsg, tAnd, tOr, tNot, tTest, tB, tOp, tUn, tCB, tCons, tNil, tVar, tC, gName, rI0, rI, rU, rEq, rNe, rIxS, rIxL, rIxT, tRet, tRetN, tTup, tLst, tSl, tPart, tNoPart, rSlS, tIf, tIfS, tNext, tDrop, tCall, tBM, tBM0, tAndV, tOrV, tNotV, tM0, tM1, gSub, rSetL, sFld, gCons_eq, gNil_eq, tDGet, sDPut, tMeth, tMake, tFld, tChain, tIsN, tNotN,
  List.set_cons_zero, List.set_cons_succ, exists_eq_left', exists_eq_left, exists_eq, V.int.injEq, V.str.injEq, V.bl.injEq, V.ref.injEq, List.cons.injEq, and_true, true_and, List.getElem?_cons_zero, List.getElem?_cons_succ, Option.some.injEq, List.append_nil, exists_and_left, cxOf_K, false_and, and_false, exists_false, false_or, or_false, exists_eq', exists_const, sg_eq, S_eq, S_toList, S_ne, tFor_eq, tLc_eq, iList_eq, iTup_eq, iRng1_eq, iStr_eq, decide_eq_true_eq, Bool.not_eq_true', decide_eq_false_iff_not, if_true, if_false, Bool.false_eq_true, reduceCtorEq, Bool.true_eq_false, decide_true, decide_false]
    exact ⟨rfl, _, sqt_of hq B.1, _, atI_nat (j := 1) rfl, q, sh, G, t, false, rfl, B, hs.mono (by decide), ht.asc, ht.1, by omega, fun H1 B1 => k _ B1⟩
  | glue t =>
    obtain ⟨p, rfl, hq⟩ := dp2 hd
    have ht : wordOk t := ha
    have h16 := ht.2.1
    refine ⟨p, rfl, _, sqt_of hq B.1, _, atI_nat (j := 0) rfl, ?_⟩
    simp only [tSeq, tAsg, tAnd, tOr, tNot, tTest, tB, tOp, tUn, tCB, tCons, tNil, tVar, tC, gName, rI0, rI, rU, rEq, rNe, rIxS, rIxL, rIxT, tRet, tRetN, tTup, tLst, tSl, tPart, tNoPart, rSlS, tIf, tIfS, tNext, tDrop, tCall, tBM, tBM0, tAndV, tOrV, tNotV, tM0, tM1, gSub, rSetL, sFld, gCons_eq, gNil_eq, tDGet, sDPut, tMeth, tMake, tFld, tChain, tIsN, tNotN,
  List.set_cons_zero, List.set_cons_succ, exists_eq_left', exists_eq_left, exists_eq, V.int.injEq, V.str.injEq, V.bl.injEq, V.ref.injEq, List.cons.injEq, and_true, true_and, List.getElem?_cons_zero, List.getElem?_cons_succ, Option.some.injEq, List.append_nil, exists_and_left, cxOf_K, false_and, and_false, exists_false, false_or, or_false, exists_eq', exists_const, sg_eq, S_eq, S_toList, S_ne, tFor_eq, tLc_eq, iList_eq, iTup_eq, iRng1_eq, iStr_eq, decide_eq_true_eq, Bool.not_eq_true', decide_eq_false_iff_not, if_true, if_false, Bool.false_eq_true, reduceCtorEq, Bool.true_eq_false, decide_true, decide_false, rq_glued hp]
    rw [if_neg (by decide)]
    refine ⟨rfl, rfl, _, sqt_of hq B.1, _, atI_nat (j := 1) rfl, q, sh, G, t, sh.glued, rfl, B, hs.mono (by decide), ht.asc, ht.1, by omega, fun H1 B1 => ?_⟩
    simp only [wq_glued B1.at]
    exact k _ B1.put
  | join t l r =>
    obtain ⟨p, rfl, hq⟩ := dp4 hd
    have ht : asc t ∧ t.length ≤ 70 := by
      rcases ha with h | ⟨rfl, _⟩
      · exact ⟨h.1.asc, Nat.le_trans h.1.2.1 (by decide)⟩
      · exact ⟨fun c hc => (nomatch hc), by decide⟩
    refine ⟨p, rfl, _, sqt_of hq B.1, _, atI_nat (j := 0) rfl, ?_⟩
    simp only [tSeq, tAsg, tAnd, tOr, tNot, tTest, tB, tOp, tUn, tCB, tCons, tNil, tVar, tC, gName, rI0, rI, rU, rEq, rNe, rIxS, rIxL, rIxT, tRet, tRetN, tTup, tLst, tSl, tPart, tNoPart, rSlS, tIf, tIfS, tNext, tDrop, tCall, tBM, tBM0, tAndV, tOrV, tNotV, tM0, tM1, gSub, rSetL, sFld, gCons_eq, gNil_eq, tDGet, sDPut, tMeth, tMake, tFld, tChain, tIsN, tNotN,
  List.set_cons_zero, List.set_cons_succ, exists_eq_left', exists_eq_left, exists_eq, V.int.injEq, V.str.injEq, V.bl.injEq, V.ref.injEq, List.cons.injEq, and_true, true_and, List.getElem?_cons_zero, List.getElem?_cons_succ, Option.some.injEq, List.append_nil, exists_and_left, cxOf_K, false_and, and_false, exists_false, false_or, or_false, exists_eq', exists_const, sg_eq, S_eq, S_toList, S_ne, tFor_eq, tLc_eq, iList_eq, iTup_eq, iRng1_eq, iStr_eq, decide_eq_true_eq, Bool.not_eq_true', decide_eq_false_iff_not, if_true, if_false, Bool.false_eq_true, reduceCtorEq, Bool.true_eq_false, decide_true, decide_false]
    rw [if_neg (by decide), if_neg (by decide)]
    exact ⟨rfl, rfl, rfl, q, sh, G, p, t, l, r, rfl, B, hq, hs, ht.1, ht.2, fun H1 B1 => k _ B1⟩
  | stop c =>
    obtain ⟨p, rfl, hq⟩ := dp2 hd
    refine ⟨p, rfl, _, sqt_of hq B.1, _, atI_nat (j := 0) rfl, ?_⟩
    simp only [tSeq, tAsg, tAnd, tOr, tNot, tTest, tB, tOp, tUn, tCB, tCons, tNil, tVar, tC, gName, rI0, rI, rU, rEq, rNe, rIxS, rIxL, rIxT, tRet, tRetN, tTup, tLst, tSl, tPart, tNoPart, rSlS, tIf, tIfS, tNext, tDrop, tCall, tBM, tBM0, tAndV, tOrV, tNotV, tM0, tM1, gSub, rSetL, sFld, gCons_eq, gNil_eq, tDGet, sDPut, tMeth, tMake, tFld, tChain, tIsN, tNotN,
  List.set_cons_zero, List.set_cons_succ, exists_eq_left', exists_eq_left, exists_eq, V.int.injEq, V.str.injEq, V.bl.injEq, V.ref.injEq, List.cons.injEq, and_true, true_and, List.getElem?_cons_zero, List.getElem?_cons_succ, Option.some.injEq, List.append_nil, exists_and_left, cxOf_K, false_and, and_false, exists_false, false_or, or_false, exists_eq', exists_const, sg_eq, S_eq, S_toList, S_ne, tFor_eq, tLc_eq, iList_eq, iTup_eq, iRng1_eq, iStr_eq, decide_eq_true_eq, Bool.not_eq_true', decide_eq_false_iff_not, if_true, if_false, Bool.false_eq_true, reduceCtorEq, Bool.true_eq_false, decide_true, decide_false, rq_text hp]
    rw [if_neg (by decide), if_neg (by decide), if_neg (by decide)]
    refine ⟨rfl, rfl, rfl, rfl, _, sqt_of hq B.1, _, atI_nat (j := 1) rfl, _, rfl, (size_le (by (try simp only [S_len, List.length_append, List.length_cons, List.length_nil]); omega)), ?_⟩
    simp only [S_cat, wq_text hp, wuq_tied, wuq_glued, upd_upd]
    have B1 : Qg q ⟨sh.line ++ [c], false, sh.size, false⟩ G (upd H q (.dK (qf ⟨sh.line ++ [c], false, sh.size, false⟩))) := B.put
    refine ⟨_, sqt_of hq B1.1, _, atI_nat (j := 1) rfl, (size_le (by simp only [List.length_cons, List.length_nil]; decide)), fun p1 n1 => in_tup false [c] [[46], [63], [33]] n1 fun H2 s2 => ⟨_, rfl, ?_⟩⟩
    have B2 := B1.same s2
    have e5 : [[46], [63], [33]].contains [c] = [46, 63, 33].contains c := by simp [List.contains_cons]
    have k2 := fun H' => k H'
    simp only [doA, stopS] at k2
    rw [e5]
    simp only [Bool.false_eq_true, if_false]
    cases hc : [46, 63, 33].contains c with
    | true =>
      rw [hc] at k2
      simp only [if_true, wq_great B2.at]
      exact k2 _ B2.put
    | false =>
      rw [hc] at k2
      simp only [Bool.false_eq_true, if_false]
      exact k2 _ B2
  | great =>
    obtain ⟨p, rfl, hq⟩ := dp1 hd
    refine ⟨p, rfl, _, sqt_of hq B.1, _, atI_nat (j := 0) rfl, ?_⟩
    simp only [tSeq, tAsg, tAnd, tOr, tNot, tTest, tB, tOp, tUn, tCB, tCons, tNil, tVar, tC, gName, rI0, rI, rU, rEq, rNe, rIxS, rIxL, rIxT, tRet, tRetN, tTup, tLst, tSl, tPart, tNoPart, rSlS, tIf, tIfS, tNext, tDrop, tCall, tBM, tBM0, tAndV, tOrV, tNotV, tM0, tM1, gSub, rSetL, sFld, gCons_eq, gNil_eq, tDGet, sDPut, tMeth, tMake, tFld, tChain, tIsN, tNotN,
  List.set_cons_zero, List.set_cons_succ, exists_eq_left', exists_eq_left, exists_eq, V.int.injEq, V.str.injEq, V.bl.injEq, V.ref.injEq, List.cons.injEq, and_true, true_and, List.getElem?_cons_zero, List.getElem?_cons_succ, Option.some.injEq, List.append_nil, exists_and_left, cxOf_K, false_and, and_false, exists_false, false_or, or_false, exists_eq', exists_const, sg_eq, S_eq, S_toList, S_ne, tFor_eq, tLc_eq, iList_eq, iTup_eq, iRng1_eq, iStr_eq, decide_eq_true_eq, Bool.not_eq_true', decide_eq_false_iff_not, if_true, if_false, Bool.false_eq_true, reduceCtorEq, Bool.true_eq_false, decide_true, decide_false]
    refine ⟨rfl, rfl, rfl, rfl, rfl, (size_le (by simp only [List.length_cons, List.length_nil]; decide)), fun p1 n1 => in_tup false wGreat [wGreat, wAll] n1 fun H1 s1 => ⟨_, rfl, ?_⟩⟩
    rw [if_pos (by decide)]
    have B1 := B.same s1
    rw [wq_great B1.at]
    exact k _ B1.put
  | all =>
    obtain ⟨p, rfl, hq⟩ := dp1 hd
    refine ⟨p, rfl, _, sqt_of hq B.1, _, atI_nat (j := 0) rfl, ?_⟩
    simp only [tSeq, tAsg, tAnd, tOr, tNot, tTest, tB, tOp, tUn, tCB, tCons, tNil, tVar, tC, gName, rI0, rI, rU, rEq, rNe, rIxS, rIxL, rIxT, tRet, tRetN, tTup, tLst, tSl, tPart, tNoPart, rSlS, tIf, tIfS, tNext, tDrop, tCall, tBM, tBM0, tAndV, tOrV, tNotV, tM0, tM1, gSub, rSetL, sFld, gCons_eq, gNil_eq, tDGet, sDPut, tMeth, tMake, tFld, tChain, tIsN, tNotN,
  List.set_cons_zero, List.set_cons_succ, exists_eq_left', exists_eq_left, exists_eq, V.int.injEq, V.str.injEq, V.bl.injEq, V.ref.injEq, List.cons.injEq, and_true, true_and, List.getElem?_cons_zero, List.getElem?_cons_succ, Option.some.injEq, List.append_nil, exists_and_left, cxOf_K, false_and, and_false, exists_false, false_or, or_false, exists_eq', exists_const, sg_eq, S_eq, S_toList, S_ne, tFor_eq, tLc_eq, iList_eq, iTup_eq, iRng1_eq, iStr_eq, decide_eq_true_eq, Bool.not_eq_true', decide_eq_false_iff_not, if_true, if_false, Bool.false_eq_true, reduceCtorEq, Bool.true_eq_false, decide_true, decide_false]
    refine ⟨rfl, rfl, rfl, rfl, rfl, (size_le (by simp only [List.length_cons, List.length_nil]; decide)), fun p1 n1 => in_tup false wAll [wGreat, wAll] n1 fun H1 s1 => ⟨_, rfl, ?_⟩⟩
    rw [if_pos (by decide)]
    have B1 := B.same s1
    rw [wq_all B1.at]
    exact k _ B1.put
  | last =>
    obtain ⟨p, rfl, hq⟩ := dp1 hd
    have tn := tail_len sh.line
    have ta := asc_tail hs.1
    refine ⟨p, rfl, _, sqt_of hq B.1, _, atI_nat (j := 0) rfl, ?_⟩
    simp only [tSeq, tAsg, tAnd, tOr, tNot, tTest, tB, tOp, tUn, tCB, tCons, tNil, tVar, tC, gName, rI0, rI, rU, rEq, rNe, rIxS, rIxL, rIxT, tRet, tRetN, tTup, tLst, tSl, tPart, tNoPart, rSlS, tIf, tIfS, tNext, tDrop, tCall, tBM, tBM0, tAndV, tOrV, tNotV, tM0, tM1, gSub, rSetL, sFld, gCons_eq, gNil_eq, tDGet, sDPut, tMeth, tMake, tFld, tChain, tIsN, tNotN,
  List.set_cons_zero, List.set_cons_succ, exists_eq_left', exists_eq_left, exists_eq, V.int.injEq, V.str.injEq, V.bl.injEq, V.ref.injEq, List.cons.injEq, and_true, true_and, List.getElem?_cons_zero, List.getElem?_cons_succ, Option.some.injEq, List.append_nil, exists_and_left, cxOf_K, false_and, and_false, exists_false, false_or, or_false, exists_eq', exists_const, sg_eq, S_eq, S_toList, S_ne, tFor_eq, tLc_eq, iList_eq, iTup_eq, iRng1_eq, iStr_eq, decide_eq_true_eq, Bool.not_eq_true', decide_eq_false_iff_not, if_true, if_false, Bool.false_eq_true, reduceCtorEq, Bool.true_eq_false, decide_true, decide_false, rq_text hp]
    refine ⟨rfl, rfl, rfl, rfl, rfl, sh.line, rfl, hs.1, Nat.le_trans hs.2 (by decide), ?_⟩
    simp only [tSeq, tAsg, tAnd, tOr, tNot, tTest, tB, tOp, tUn, tCB, tCons, tNil, tVar, tC, gName, rI0, rI, rU, rEq, rNe, rIxS, rIxL, rIxT, tRet, tRetN, tTup, tLst, tSl, tPart, tNoPart, rSlS, tIf, tNext, tDrop, tCall, tBM, tBM0, tAndV, tOrV, tNotV, tM0, tM1, gSub, rSetL, sFld, gCons_eq, gNil_eq, tDGet, sDPut, tMeth, tMake, tFld, tChain, tIsN, tNotN,
  List.set_cons_zero, List.set_cons_succ, exists_eq_left', exists_eq_left, exists_eq, V.int.injEq, V.str.injEq, V.bl.injEq, V.ref.injEq, List.cons.injEq, and_true, true_and, List.getElem?_cons_zero, List.getElem?_cons_succ, Option.some.injEq, List.append_nil, exists_and_left, cxOf_K, false_and, and_false, exists_false, false_or, or_false, exists_eq', exists_const, sg_eq, S_eq, S_toList, S_ne, tFor_eq, tLc_eq, iList_eq, iTup_eq, iRng1_eq, iStr_eq, decide_eq_true_eq, Bool.not_eq_true', decide_eq_false_iff_not, if_true, if_false, Bool.false_eq_true, reduceCtorEq, Bool.true_eq_false, decide_true, decide_false, rq_text hp]
    refine ⟨size_le (by rw [S_len]; omega), ?_⟩
    have e1 : (((headL sh.line).length : Int) < ((S sh.line).length : Int)) ↔ (tailL sh.line) ≠ [] := by
      rw [S_len, ← List.length_pos_iff]
      omega
    have k2 := fun H' => k H'
    simp only [doA, lastS] at k2
    cases htl : tailL sh.line with
    | nil =>
      rw [htl] at k2
      rw [if_neg (fun z => e1.mp z htl)]
      exact k2 _ B
    | cons c r =>
      rw [htl] at k2 ta tn
      rw [List.length_cons] at tn
      rw [if_pos (e1.mpr (by rw [htl]; exact fun z => nomatch z))]
      have a0 : atI sh.line ((headL sh.line).length : Int) = some c := by
        have e9 := head_tail sh.line
        rw [htl] at e9
        conv => lhs; arg 1; rw [← e9]
        exact atI_at _ _ _
      have c2 : cutS (S sh.line) (some (((headL sh.line).length : Int) + 1)) none = S r := by
        have e9 := head_tail sh.line
        rw [htl] at e9
        have e10 : ((headL sh.line).length : Int) + 1 = (((headL sh.line).length + 1 : Nat) : Int) := by omega
        rw [e10, cutS_S, cutL_from]
        conv => lhs; arg 1; arg 2; rw [← e9]
        rw [← List.drop_drop, List.drop_left]
        rfl
      have eu : Txt.upper (S [c]) = S [PyProof.Rows.up1 c] := SX.upper_S (all_asc fun x hx => by
        rw [List.mem_singleton.mp hx]
        exact ta c List.mem_cons_self)
      simp only [tSeq, tAsg, tAnd, tOr, tNot, tTest, tB, tOp, tUn, tCB, tCons, tNil, tVar, tC, gName, rI0, rI, rU, rEq, rNe, rIxS, rIxL, rIxT, tRet, tRetN, tTup, tLst, tSl, tPart, tNoPart, rSlS, tIf, tIfS, tNext, tDrop, tCall, tBM, tBM0, tAndV, tOrV, tNotV, tM0, tM1, gSub, rSetL, sFld, gCons_eq, gNil_eq, tDGet, sDPut, tMeth, tMake, tFld, tChain, tIsN, tNotN,
  List.set_cons_zero, List.set_cons_succ, exists_eq_left', exists_eq_left, exists_eq, V.int.injEq, V.str.injEq, V.bl.injEq, V.ref.injEq, List.cons.injEq, and_true, true_and, List.getElem?_cons_zero, List.getElem?_cons_succ, Option.some.injEq, List.append_nil, exists_and_left, cxOf_K, false_and, and_false, exists_false, false_or, or_false, exists_eq', exists_const, sg_eq, S_eq, S_toList, S_ne, tFor_eq, tLc_eq, iList_eq, iTup_eq, iRng1_eq, iStr_eq, decide_eq_true_eq, Bool.not_eq_true', decide_eq_false_iff_not, if_true, if_false, Bool.false_eq_true, reduceCtorEq, Bool.true_eq_false, decide_true, decide_false, cutL_head, a0, eu, c2, S_cat, wq_text hp]
      refine ⟨size_le (by rw [S_len]; omega), size_le (by rw [S_len]; omega), Nat.le_trans (by rw [S_len]; simp : (S [c]).length ≤ 1) (by decide), size_le (by simp only [S_len, List.length_cons, List.length_nil]; omega), size_le (by rw [S_len]; omega), size_le (by simp only [S_len, List.length_append, List.length_cons, List.length_nil]; omega), ?_⟩
      rw [List.append_assoc]
      exact k2 _ B.put
  | back =>
    obtain ⟨p, rfl, hq⟩ := dp1 hd
    refine ⟨p, rfl, _, sqt_of hq B.1, _, atI_nat (j := 0) rfl, ?_⟩
    simp only [tSeq, tAsg, tAnd, tOr, tNot, tTest, tB, tOp, tUn, tCB, tCons, tNil, tVar, tC, gName, rI0, rI, rU, rEq, rNe, rIxS, rIxL, rIxT, tRet, tRetN, tTup, tLst, tSl, tPart, tNoPart, rSlS, tIf, tIfS, tNext, tDrop, tCall, tBM, tBM0, tAndV, tOrV, tNotV, tM0, tM1, gSub, rSetL, sFld, gCons_eq, gNil_eq, tDGet, sDPut, tMeth, tMake, tFld, tChain, tIsN, tNotN,
  List.set_cons_zero, List.set_cons_succ, exists_eq_left', exists_eq_left, exists_eq, V.int.injEq, V.str.injEq, V.bl.injEq, V.ref.injEq, List.cons.injEq, and_true, true_and, List.getElem?_cons_zero, List.getElem?_cons_succ, Option.some.injEq, List.append_nil, exists_and_left, cxOf_K, false_and, and_false, exists_false, false_or, or_false, exists_eq', exists_const, sg_eq, S_eq, S_toList, S_ne, tFor_eq, tLc_eq, iList_eq, iTup_eq, iRng1_eq, iStr_eq, decide_eq_true_eq, Bool.not_eq_true', decide_eq_false_iff_not, if_true, if_false, Bool.false_eq_true, reduceCtorEq, Bool.true_eq_false, decide_true, decide_false]
    refine ⟨rfl, rfl, rfl, rfl, rfl, (size_le (by simp only [List.length_cons, List.length_nil]; decide)), fun p1 n1 => in_tup false wBack [wGreat, wAll] n1 fun H1 s1 => ⟨_, rfl, ?_⟩⟩
    rw [if_neg (by decide)]
    exact k _ (B.same s1)
  | again =>
    obtain ⟨p, rfl, hq⟩ := dp1 hd
    refine ⟨p, rfl, _, sqt_of hq B.1, _, atI_nat (j := 0) rfl, ?_⟩
    simp only [tSeq, tAsg, tAnd, tOr, tNot, tTest, tB, tOp, tUn, tCB, tCons, tNil, tVar, tC, gName, rI0, rI, rU, rEq, rNe, rIxS, rIxL, rIxT, tRet, tRetN, tTup, tLst, tSl, tPart, tNoPart, rSlS, tIf, tIfS, tNext, tDrop, tCall, tBM, tBM0, tAndV, tOrV, tNotV, tM0, tM1, gSub, rSetL, sFld, gCons_eq, gNil_eq, tDGet, sDPut, tMeth, tMake, tFld, tChain, tIsN, tNotN,
  List.set_cons_zero, List.set_cons_succ, exists_eq_left', exists_eq_left, exists_eq, V.int.injEq, V.str.injEq, V.bl.injEq, V.ref.injEq, List.cons.injEq, and_true, true_and, List.getElem?_cons_zero, List.getElem?_cons_succ, Option.some.injEq, List.append_nil, exists_and_left, cxOf_K, false_and, and_false, exists_false, false_or, or_false, exists_eq', exists_const, sg_eq, S_eq, S_toList, S_ne, tFor_eq, tLc_eq, iList_eq, iTup_eq, iRng1_eq, iStr_eq, decide_eq_true_eq, Bool.not_eq_true', decide_eq_false_iff_not, if_true, if_false, Bool.false_eq_true, reduceCtorEq, Bool.true_eq_false, decide_true, decide_false]
    refine ⟨rfl, rfl, rfl, rfl, rfl, (size_le (by simp only [List.length_cons, List.length_nil]; decide)), fun p1 n1 => in_tup false wAgain [wGreat, wAll] n1 fun H1 s1 => ⟨_, rfl, ?_⟩⟩
    rw [if_neg (by decide)]
    exact k _ (B.same s1)
end
/-! ### the law's shown: all pieces -/
def lInv (K : PySem.W.Frag) (a p : Addr) (H : Hp) (ps : List Pie) (rest : List V) (σ : L2.St) (H' : Hp) : Prop := ∃ (done todo : List Pie) (y2 y3 y4 : Option V), ps = done ++ todo ∧ DpAll K H rest (todo.map pieD) ∧ σ = [some (.ref a), some (.ref p), y2, y3, y4] ∧ shOk (320 * done.length) ((done.map pieP).foldl showP sh0) ∧ Qg p ((done.map pieP).foldl showP sh0) H H'
def lInv2 (K : PySem.W.Frag) (a p : Addr) (H : Hp) (s0 : Sh) (n : Nat) (y2 y3 : Option V) (en : List Act) (rest : List V) (σ : L2.St) (H' : Hp) : Prop := ∃ (done todo : List Act) (y4 : Option V), en = done ++ todo ∧ DpAll K H rest (todo.map actD) ∧ σ = [some (.ref a), some (.ref p), y2, y3, y4] ∧ shOk (n + 80 * done.length) (done.foldl doA s0) ∧ Qg p (done.foldl doA s0) H H'
def sp_lshown (K : PySem.W.Frag) : Sp := fun vs H Q _ => ∃ (a : Addr) (xs : List V) (ps : List Pie), vs = [.ref a] ∧ SqL K H a xs ∧ DpAll K H xs (ps.map pieD) ∧ ps.length ≤ 150 ∧ (∀ p ∈ ps, pieOk p ∧ ∃ t, p.1 = [t] ∧ 1 ≤ t.length) ∧ ∀ H', Same H H' → Q (.str (S (showAll (ps.map pieP)))) H'
abbrev s_l_shown : Stmt := (top 27)
theorem sc_l_shown : FnScope ["_law_pieces", "_law_s", "_law_row_here", "_law_entry_here", "_law_action_here"] ["_law_pieces"] (defScope s_l_shown) := ⟨rfl, rfl, rfl, by decide +kernel, rfl, by decide +kernel, by decide +kernel⟩

section
variable {P : Program} {w : World} {K : PySem.W.Frag} {mg : Str → Option Value} {base : Heap}
theorem ok_lshown {f : Addr} {fd : FuncData} (F : FunS K "_law_shown" s_l_shown f fd) (c_l_put : Cal P w K mg base CX0 2 "_law_put" sp_lput) (c_l_do : Cal P w K mg base CX0 5 "_law_do" (sp_ldo K)) : FnOk P w K mg base CX0 6 f fd ["_law_pieces"] (sp_lshown K) := by
  refine F.ok sc_l_shown (fun vs H Q E h => ?_) (fun cdv A outer s H vs Q E hr h => ?_)
  · obtain ⟨a, xs, ps, rfl, _⟩ := h
    rfl
  obtain ⟨a, xs, ps, rfl, hq, hd, hl, ho, k⟩ := h
  refine ⟨_, PSs.nox (pss_cons (ps_set (i := 1) sc_l_shown.nd rfl (.inl rfl) (pe_disp (pps_cons pe_str pe_str (pps_cons pe_str pe_bl (pps_cons pe_str pe_bl (pps_cons pe_str pe_str pps_nil)))) (by rfl) (by rfl) (fun z => by cases z) (by decide)))
  (pss_cons (ps_for PassesOwn.never rfl (pi_list (pv 0)) (pg_tup (by rfl) (pgs_cons (pg_name (i := 2) sc_l_shown.nd rfl (.inl rfl)) (pgs_cons (pg_name (i := 3) sc_l_shown.nd rfl (.inl rfl)) pgs_nil)))
    (pss_one (ps_if (pt_cmpR op_isN (pv 3) pe_non (nomark _))
    (pss_one (ps_expr (pe_c c_l_put hr (by first | decide | omega) (by rfl) (pa_cons (pv 1) (pa_cons (pe_ix ix_tup (pv 2) pe_int (fun _ _ => rfl)) (pa_cons pe_bl pa_nil))))))
    (pss_one (ps_for PassesOwn.never rfl (pi_tup (pv 3)) (pg_name (i := 4) sc_l_shown.nd rfl (.inl rfl))
    (pss_one (ps_expr (pe_c c_l_do hr (by first | decide | omega) (by rfl) (pa_cons (pv 1) (pa_cons (pv 4) pa_nil))))))))))
  (pss_one (ps_ret (pe_dget (hu_of hr) (pv 1) pe_str (fun _ _ => rfl)))))), ?_⟩
  simp only [tSeq, tAsg, tAnd, tOr, tNot, tTest, tB, tOp, tUn, tCB, tCons, tNil, tVar, tC, gName, rI0, rI, rU, rEq, rNe, rIxS, rIxL, rIxT, tRet, tRetN, tTup, tLst, tSl, tPart, tNoPart, rSlS, tIf, tIfS, tNext, tDrop, tCall, tBM, tBM0, tAndV, tOrV, tNotV, tM0, tM1, gSub, rSetL, sFld, gCons_eq, gNil_eq, tDGet, sDPut, tMeth, tMake, tFld, tChain, tIsN, tNotN,
  List.set_cons_zero, List.set_cons_succ, exists_eq_left', exists_eq_left, exists_eq, V.int.injEq, V.str.injEq, V.bl.injEq, V.ref.injEq, List.cons.injEq, and_true, true_and, List.getElem?_cons_zero, List.getElem?_cons_succ, Option.some.injEq, List.append_nil, exists_and_left, cxOf_K, false_and, and_false, exists_false, false_or, or_false, exists_eq', exists_const, sg_eq, S_eq, S_toList, S_ne, tFor_eq, tLc_eq, iList_eq, iTup_eq, iRng1_eq, iStr_eq, decide_eq_true_eq, Bool.not_eq_true', decide_eq_false_iff_not, if_true, if_false, Bool.false_eq_true, reduceCtorEq, Bool.true_eq_false, decide_true, decide_false, lit_116_101_120_116, lit_116_105_101_100, lit_103_108_117_101_100, lit_115_105_122_101, lit_, start1_5]
  intro p np
  simp only [tPairs, tSeq, tAsg, tAnd, tOr, tNot, tTest, tB, tOp, tUn, tCB, tCons, tNil, tVar, tC, gName, rI0, rI, rU, rEq, rNe, rIxS, rIxL, rIxT, tRet, tRetN, tTup, tLst, tSl, tPart, tNoPart, rSlS, tIf, tIfS, tNext, tDrop, tCall, tBM, tBM0, tAndV, tOrV, tNotV, tM0, tM1, gSub, rSetL, sFld, gCons_eq, gNil_eq, tDGet, sDPut, tMeth, tMake, tFld, tChain, tIsN, tNotN,
  List.set_cons_zero, List.set_cons_succ, exists_eq_left', exists_eq_left, exists_eq, V.int.injEq, V.str.injEq, V.bl.injEq, V.ref.injEq, List.cons.injEq, and_true, true_and, List.getElem?_cons_zero, List.getElem?_cons_succ, Option.some.injEq, List.append_nil, exists_and_left, cxOf_K, false_and, and_false, exists_false, false_or, or_false, exists_eq', exists_const, sg_eq, S_eq, S_toList, S_ne, tFor_eq, tLc_eq, iList_eq, iTup_eq, iRng1_eq, iStr_eq, decide_eq_true_eq, Bool.not_eq_true', decide_eq_false_iff_not, if_true, if_false, Bool.false_eq_true, reduceCtorEq, Bool.true_eq_false, decide_true, decide_false]
  refine ⟨upd_same, [(.inr kText, .str (S [])), (.inr kTied, .bl false), (.inr kGlued, .bl false), (.inr kSize, .str (S []))], rfl, by decide, ?_⟩
  rw [upd_upd]
  have e0 : mergeK [] [(.inr kText, V.str (S [])), (.inr kTied, .bl false), (.inr kGlued, .bl false), (.inr kSize, .str (S []))] = qf sh0 := rfl
  rw [e0]
  have B1 : Qg p sh0 H (upd H p (.dK (qf sh0))) := ⟨same_new np, np, upd_same⟩
  generalize upd H p (.dK (qf sh0)) = H1 at B1
  refine ⟨⟨xs, same_l B1.1 hq⟩, ?_⟩
  refine loop_list xs (lInv K a p H ps)
    ⟨[], ps, none, none, none, rfl, hd, rfl, ⟨fun c hc => (nomatch hc), Nat.le_refl _⟩, B1⟩ (fun r σ H' ⟨_, _, _, _, _, _, _, _, _, B⟩ => same_l B.1 hq) ?_ ?_
  · rintro x r σ H2 ⟨done, todo, y2, y3, y4, e, hx, rfl, hs, B2⟩
    cases todo with
    | nil => exact absurd (dps_nil hx) (fun z => nomatch z)
    | cons pie todo =>
      obtain ⟨v, r', er, hv, hx⟩ := dps_cons hx
      cases er
      obtain ⟨hpie, ts, hts, hts1⟩ := ho pie (by rw [e]; exact List.mem_append_right _ List.mem_cons_self)
      have hlen : done.length < 150 := by
        have := congrArg List.length e
        rw [List.length_append, List.length_cons] at this
        omega
      have hs' := pie_ok (by omega) hs hpie
      have e' : ps = (done ++ [pie]) ++ todo := by rw [e]; simp
      have ef : ((done ++ [pie]).map pieP).foldl showP sh0 = showP ((done.map pieP).foldl showP sh0) (pieP pie) := by
        rw [List.map_append, List.foldl_append]
        rfl
      have fin : ∀ (y2 y3 y4 : Option V) H', Qg p (showP ((done.map pieP).foldl showP sh0) (pieP pie)) H H' → lInv K a p H ps r [some (.ref a), some (.ref p), y2, y3, y4] H' := fun y2 y3 y4 H' B => by
        refine ⟨done ++ [pie], todo, y2, y3, y4, e', hx, rfl, ?_, ?_⟩
        · rw [ef, List.length_append, List.length_singleton]
          exact hs'.mono (by omega)
        · rw [ef]
          exact B
      obtain ⟨row, ent⟩ := pie
      obtain ⟨q, ys, rfl, hq2, hys⟩ := dp_tup hv
      obtain ⟨v1, r1, rfl, hv1, hys⟩ := dps_cons hys
      obtain ⟨v2, r2, rfl, hv2, hys⟩ := dps_cons hys
      obtain rfl := dps_nil hys
      refine ⟨q, _, rfl, same_t B2.1 hq2, rfl, ?_⟩
      have hp2 := B2.at
      have n320 : 320 * done.length ≤ 320 * 149 := Nat.mul_le_mul_left _ (by omega)
      cases ent with
      | none =>
        rw [dp_non hv2]
        obtain ⟨q2, rfl, hq3⟩ := dp_row hv1
        simp only [tSeq, tAsg, tAnd, tOr, tNot, tTest, tB, tOp, tUn, tCB, tCons, tNil, tVar, tC, gName, rI0, rI, rU, rEq, rNe, rIxS, rIxL, rIxT, tRet, tRetN, tTup, tLst, tSl, tPart, tNoPart, rSlS, tIf, tIfS, tNext, tDrop, tCall, tBM, tBM0, tAndV, tOrV, tNotV, tM0, tM1, gSub, rSetL, sFld, gCons_eq, gNil_eq, tDGet, sDPut, tMeth, tMake, tFld, tChain, tIsN, tNotN,
  List.set_cons_zero, List.set_cons_succ, exists_eq_left', exists_eq_left, exists_eq, V.int.injEq, V.str.injEq, V.bl.injEq, V.ref.injEq, List.cons.injEq, and_true, true_and, List.getElem?_cons_zero, List.getElem?_cons_succ, Option.some.injEq, List.append_nil, exists_and_left, cxOf_K, false_and, and_false, exists_false, false_or, or_false, exists_eq', exists_const, sg_eq, S_eq, S_toList, S_ne, tFor_eq, tLc_eq, iList_eq, iTup_eq, iRng1_eq, iStr_eq, decide_eq_true_eq, Bool.not_eq_true', decide_eq_false_iff_not, if_true, if_false, Bool.false_eq_true, reduceCtorEq, Bool.true_eq_false, decide_true, decide_false]
        have hts' : row = [ts] := hts
        subst hts'
        refine ⟨_, same_t B2.1 hq3, _, atI_nat (j := 0) rfl, p, _, H, ts, false, rfl, B2, hs.mono (by omega), hpie.1, hts1, hpie.2.1, fun H3 B3 => fin _ _ _ H3 B3⟩
      | some en =>
        obtain ⟨q3, zs, rfl, hq4, hzs⟩ := dp_tup hv2
        obtain ⟨he1, he2⟩ := hpie.2.2.2.2 en rfl
        simp only [tSeq, tAsg, tAnd, tOr, tNot, tTest, tB, tOp, tUn, tCB, tCons, tNil, tVar, tC, gName, rI0, rI, rU, rEq, rNe, rIxS, rIxL, rIxT, tRet, tRetN, tTup, tLst, tSl, tPart, tNoPart, rSlS, tIf, tIfS, tNext, tDrop, tCall, tBM, tBM0, tAndV, tOrV, tNotV, tM0, tM1, gSub, rSetL, sFld, gCons_eq, gNil_eq, tDGet, sDPut, tMeth, tMake, tFld, tChain, tIsN, tNotN,
  List.set_cons_zero, List.set_cons_succ, exists_eq_left', exists_eq_left, exists_eq, V.int.injEq, V.str.injEq, V.bl.injEq, V.ref.injEq, List.cons.injEq, and_true, true_and, List.getElem?_cons_zero, List.getElem?_cons_succ, Option.some.injEq, List.append_nil, exists_and_left, cxOf_K, false_and, and_false, exists_false, false_or, or_false, exists_eq', exists_const, sg_eq, S_eq, S_toList, S_ne, tFor_eq, tLc_eq, iList_eq, iTup_eq, iRng1_eq, iStr_eq, decide_eq_true_eq, Bool.not_eq_true', decide_eq_false_iff_not, if_true, if_false, Bool.false_eq_true, reduceCtorEq, Bool.true_eq_false, decide_true, decide_false]
        refine ⟨⟨_, same_t B2.1 hq4⟩, ?_⟩
        refine loop_tup zs (lInv2 K a p H ((done.map pieP).foldl showP sh0) (320 * done.length) (some v1) (some (V.ref q3)) en) ⟨[], en, y4, rfl, hzs, rfl, hs, B2⟩ (fun r2 σ H' ⟨_, _, _, _, _, _, _, B⟩ => same_t B.1 hq4) ?_ ?_
        · rintro x2 r2 σ H3 ⟨done2, todo2, y5, e2, hx2, rfl, hs2, B3⟩
          cases todo2 with
          | nil => exact absurd (dps_nil hx2) (fun z => nomatch z)
          | cons act todo2 =>
            obtain ⟨v', r'', er, hv3, hx2⟩ := dps_cons hx2
            cases er
            have hact : actOk act := he2 act (by rw [e2]; exact List.mem_append_right _ List.mem_cons_self)
            have hl4 : done2.length < 4 := by
              have := congrArg List.length e2
              rw [List.length_append, List.length_cons] at this
              omega
            have h80 := do_okS (a := act) (by omega) hs2 hact
            simp only [tSeq, tAsg, tAnd, tOr, tNot, tTest, tB, tOp, tUn, tCB, tCons, tNil, tVar, tC, gName, rI0, rI, rU, rEq, rNe, rIxS, rIxL, rIxT, tRet, tRetN, tTup, tLst, tSl, tPart, tNoPart, rSlS, tIf, tIfS, tNext, tDrop, tCall, tBM, tBM0, tAndV, tOrV, tNotV, tM0, tM1, gSub, rSetL, sFld, gCons_eq, gNil_eq, tDGet, sDPut, tMeth, tMake, tFld, tChain, tIsN, tNotN,
  List.set_cons_zero, List.set_cons_succ, exists_eq_left', exists_eq_left, exists_eq, V.int.injEq, V.str.injEq, V.bl.injEq, V.ref.injEq, List.cons.injEq, and_true, true_and, List.getElem?_cons_zero, List.getElem?_cons_succ, Option.some.injEq, List.append_nil, exists_and_left, cxOf_K, false_and, and_false, exists_false, false_or, or_false, exists_eq', exists_const, sg_eq, S_eq, S_toList, S_ne, tFor_eq, tLc_eq, iList_eq, iTup_eq, iRng1_eq, iStr_eq, decide_eq_true_eq, Bool.not_eq_true', decide_eq_false_iff_not, if_true, if_false, Bool.false_eq_true, reduceCtorEq, Bool.true_eq_false, decide_true, decide_false]
            refine ⟨p, _, H, _, act, rfl, B3, hs2.mono (by omega), hv3, hact, fun H4 B4 => ?_⟩
            refine ⟨done2 ++ [act], todo2, some _, by rw [e2]; simp, hx2, rfl, ?_, ?_⟩
            · rw [List.foldl_append, List.length_append, List.length_singleton]
              exact h80.mono (by omega)
            · rw [List.foldl_append]
              exact B4
        · rintro σ H3 ⟨done2, todo2, y5, e2, hx2, rfl, hs2, B3⟩
          cases todo2 with
          | cons act todo2 =>
            obtain ⟨v', r'', er, _⟩ := dps_cons hx2
            cases er
          | nil =>
            rw [List.append_nil] at e2
            subst e2
            exact fin _ _ _ H3 B3
  · rintro σ H2 ⟨done, todo, y2, y3, y4, e, hx, rfl, hs, B2⟩
    cases todo with
    | cons pie todo =>
      obtain ⟨v, r', er, hv, hx⟩ := dps_cons hx
      cases er
    | nil =>
      rw [List.append_nil] at e
      subst e
      simp only [tSeq, tAsg, tAnd, tOr, tNot, tTest, tB, tOp, tUn, tCB, tCons, tNil, tVar, tC, gName, rI0, rI, rU, rEq, rNe, rIxS, rIxL, rIxT, tRet, tRetN, tTup, tLst, tSl, tPart, tNoPart, rSlS, tIf, tIfS, tNext, tDrop, tCall, tBM, tBM0, tAndV, tOrV, tNotV, tM0, tM1, gSub, rSetL, sFld, gCons_eq, gNil_eq, tDGet, sDPut, tMeth, tMake, tFld, tChain, tIsN, tNotN,
  List.set_cons_zero, List.set_cons_succ, exists_eq_left', exists_eq_left, exists_eq, V.int.injEq, V.str.injEq, V.bl.injEq, V.ref.injEq, List.cons.injEq, and_true, true_and, List.getElem?_cons_zero, List.getElem?_cons_succ, Option.some.injEq, List.append_nil, exists_and_left, cxOf_K, false_and, and_false, exists_false, false_or, or_false, exists_eq', exists_const, sg_eq, S_eq, S_toList, S_ne, tFor_eq, tLc_eq, iList_eq, iTup_eq, iRng1_eq, iStr_eq, decide_eq_true_eq, Bool.not_eq_true', decide_eq_false_iff_not, if_true, if_false, Bool.false_eq_true, reduceCtorEq, Bool.true_eq_false, decide_true, decide_false, rq_text B2.at]
      exact k _ B2.1
end
/-! ### strokes -/
def strokeT (n : Nat) : Tx := ((List.range 10).filter fun k => n / 2 ^ k % 2 == 1).map (97 + ·)
def sp_stroke : Sp := fun vs H Q _ => ∃ (b : Addr) (G : Hp), vs = [.ref b] ∧ Bx b G H ∧ ∀ (n : Nat) H', 1 ≤ n → n ≤ 1023 → Bx b G H' → Q (.str (S (strokeT n))) H'
theorem stroke_ok : ∀ n, n < 1024 → 1 ≤ n → 1 ≤ (strokeT n).length ∧ (strokeT n).length ≤ 10 := by decide +kernel
theorem stroke_asc (n : Nat) : asc (strokeT n) := fun c hc => by
  obtain ⟨k, hk, rfl⟩ := List.mem_map.mp hc
  have := List.mem_range.mp (List.mem_filter.mp hk).1
  omega
theorem bits_at : ∀ i : Nat, i < 10 → atI [V.int 1, V.int 2, V.int 4, V.int 8, V.int 16, V.int 32, V.int 64, V.int 128, V.int 256, V.int 512] (i : Int) = some (.int ((2 ^ i : Nat) : Int)) ∧ atI [97, 98, 99, 100, 101, 102, 103, 104, 105, 106] (i : Int) = some (97 + i)
  | 0, _ | 1, _ | 2, _ | 3, _ | 4, _ | 5, _ | 6, _ | 7, _ | 8, _ | 9, _ => ⟨rfl, rfl⟩
  | n + 10, h => absurd h (by omega)
theorem CDivN_ok (n m : Nat) (h : 0 < m) (h2 : m < 1073741824) : CDivN (n : Int) (m : Int) := ⟨by omega, by omega⟩
theorem pow_lt10 : ∀ i, i < 10 → 2 ^ i < 1073741824 := by decide
theorem bit_test (n i : Nat) : ((n : Int).fdiv ((2 ^ i : Nat) : Int) % 2 != 0) = (n / 2 ^ i % 2 == 1) := by
  rw [Int.fdiv_eq_ediv_of_nonneg _ (Int.natCast_nonneg _), ← Int.natCast_ediv]
  generalize n / 2 ^ i = q
  rw [Bool.eq_iff_iff, bne_iff_ne, beq_iff_eq]
  omega
abbrev s_l_stroke : Stmt := (top 13)
theorem sc_l_stroke : FnScope ["_law_box", "_law_number", "_law_k"] ["_law_box"] (defScope s_l_stroke) := ⟨rfl, rfl, rfl, by decide +kernel, rfl, by decide +kernel, by decide +kernel⟩

section
variable {P : Program} {w : World} {K : PySem.W.Frag} {mg : Str → Option Value} {base : Heap}
theorem ok_stroke {f : Addr} {fd : FuncData} (F : FunS K "_law_stroke" s_l_stroke f fd) (b_range : mg "range" = none) (c_l_take : Cal P w K mg base CX0 1 "_law_take" sp_take) : FnOk P w K mg base CX0 2 f fd ["_law_box"] sp_stroke := by
  refine F.ok sc_l_stroke (fun vs H Q E h => ?_) (fun cdv A outer s H vs Q E hr h => ?_)
  · obtain ⟨b, G, rfl, _⟩ := h
    rfl
  obtain ⟨b, G, rfl, B, k⟩ := h
  refine ⟨_, PSs.nox (pss_cons (ps_set (i := 1) sc_l_stroke.nd rfl (.inr rfl) (pe_op op_add pe_int (pe_c c_l_take hr (by first | decide | omega) (by rfl) (pa_cons (pv 0) (pa_cons pe_int pa_nil)))))
  (pss_cons (ps_if (pt_cmpR op_gt (pe_c c_l_take hr (by first | decide | omega) (by rfl) (pa_cons (pv 0) (pa_cons pe_int pa_nil))) pe_int (nomark _))
    (pss_one (ps_set (i := 1) sc_l_stroke.nd rfl (.inr rfl) (pe_ix ix_list (pe_lst (pa_cons pe_int (pa_cons pe_int (pa_cons pe_int (pa_cons pe_int (pa_cons pe_int (pa_cons pe_int pa_nil))))))) (pe_c c_l_take hr (by first | decide | omega) (by rfl) (pa_cons (pv 0) (pa_cons pe_int pa_nil))) (fun _ _ => rfl))))
    pss_nil)
  (pss_one (ps_ret (pe_join pe_str (pe_lc (own := [("_law_k", 2)]) rfl sc_l_stroke.nd (pi_range1 (by rfl) b_range (pa_cons pe_int pa_nil)) (blkOk_by (N := ["_law_box", "_law_number", "_law_k"]) (sc := defScope s_l_stroke) (own := [("_law_k", 2)]) (by decide +kernel)) (fun _ _ _ _ _ => (pg_name (i := 2) sc_l_stroke.nd rfl (.inl rfl))) (fun _ _ _ _ _ => (pts_one (pt_tint (pe_op op_mod (pe_op op_fdivN (pv 1) (pe_ix (ixK_list (K := K) rfl) (pe_lst (pa_cons pe_int (pa_cons pe_int (pa_cons pe_int (pa_cons pe_int (pa_cons pe_int (pa_cons pe_int (pa_cons pe_int (pa_cons pe_int (pa_cons pe_int (pa_cons pe_int pa_nil))))))))))) (pv 2) (fun _ _ => rfl))) pe_int) (by intro _; rfl)))) (fun _ _ _ _ _ => (pe_ix ix_str pe_str (pv 2) (fun _ _ => rfl))))))))), ?_⟩
  simp only [tSeq, tAsg, tAnd, tOr, tNot, tTest, tB, tOp, tUn, tCB, tCons, tNil, tVar, tC, gName, rI0, rI, rU, rEq, rNe, rIxS, rIxL, rIxT, tRet, tRetN, tTup, tLst, tSl, tPart, tNoPart, rSlS, tIf, tNext, tDrop, tCall, tBM, tBM0, tAndV, tOrV, tNotV, tM0, tM1, gSub, rSetL, sFld, gCons_eq, gNil_eq, tDGet, sDPut, tMeth, tMake, tFld, tChain, tIsN, tNotN,
  List.set_cons_zero, List.set_cons_succ, exists_eq_left', exists_eq_left, exists_eq, V.int.injEq, V.str.injEq, V.bl.injEq, V.ref.injEq, List.cons.injEq, and_true, true_and, List.getElem?_cons_zero, List.getElem?_cons_succ, Option.some.injEq, List.append_nil, exists_and_left, cxOf_K, false_and, and_false, exists_false, false_or, or_false, exists_eq', exists_const, sg_eq, S_eq, S_toList, S_ne, tFor_eq, tLc_eq, iList_eq, iTup_eq, iRng1_eq, iStr_eq, decide_eq_true_eq, Bool.not_eq_true', decide_eq_false_iff_not, if_true, if_false, Bool.false_eq_true, reduceCtorEq, Bool.true_eq_false, decide_true, decide_false, lit_, lit_97_98_99_100_101_102_103_104_105_106, start1_3]
  refine take_ B (by decide) (by decide) fun r1 H1 hr1 B1 => ?_
  simp only [tSeq, tAsg, tAnd, tOr, tNot, tTest, tB, tOp, tUn, tCB, tCons, tNil, tVar, tC, gName, rI0, rI, rU, rEq, rNe, rIxS, rIxL, rIxT, tRet, tRetN, tTup, tLst, tSl, tPart, tNoPart, rSlS, tIf, tNext, tDrop, tCall, tBM, tBM0, tAndV, tOrV, tNotV, tM0, tM1, gSub, rSetL, sFld, gCons_eq, gNil_eq, tDGet, sDPut, tMeth, tMake, tFld, tChain, tIsN, tNotN,
  List.set_cons_zero, List.set_cons_succ, exists_eq_left', exists_eq_left, exists_eq, V.int.injEq, V.str.injEq, V.bl.injEq, V.ref.injEq, List.cons.injEq, and_true, true_and, List.getElem?_cons_zero, List.getElem?_cons_succ, Option.some.injEq, List.append_nil, exists_and_left, cxOf_K, false_and, and_false, exists_false, false_or, or_false, exists_eq', exists_const, sg_eq, S_eq, S_toList, S_ne, tFor_eq, tLc_eq, iList_eq, iTup_eq, iRng1_eq, iStr_eq, decide_eq_true_eq, Bool.not_eq_true', decide_eq_false_iff_not, if_true, if_false, Bool.false_eq_true, reduceCtorEq, Bool.true_eq_false, decide_true, decide_false]
  refine if_fin (fun σ' H' => ∃ n : Nat, σ' = [some (.ref b), some (.int (n : Int)), none] ∧ 1 ≤ n ∧ n ≤ 1023 ∧ Bx b G H') ?_ ?_
  rotate_left
  · intro nx fin
    simp only [tSeq, tAsg, tAnd, tOr, tNot, tTest, tB, tOp, tUn, tCB, tCons, tNil, tVar, tC, gName, rI0, rI, rU, rEq, rNe, rIxS, rIxL, rIxT, tRet, tRetN, tTup, tLst, tSl, tPart, tNoPart, rSlS, tIf, tIfS, tNext, tDrop, tCall, tBM, tBM0, tAndV, tOrV, tNotV, tM0, tM1, gSub, rSetL, sFld, gCons_eq, gNil_eq, tDGet, sDPut, tMeth, tMake, tFld, tChain, tIsN, tNotN,
  List.set_cons_zero, List.set_cons_succ, exists_eq_left', exists_eq_left, exists_eq, V.int.injEq, V.str.injEq, V.bl.injEq, V.ref.injEq, List.cons.injEq, and_true, true_and, List.getElem?_cons_zero, List.getElem?_cons_succ, Option.some.injEq, List.append_nil, exists_and_left, cxOf_K, false_and, and_false, exists_false, false_or, or_false, exists_eq', exists_const, sg_eq, S_eq, S_toList, S_ne, tFor_eq, tLc_eq, iList_eq, iTup_eq, iRng1_eq, iStr_eq, decide_eq_true_eq, Bool.not_eq_true', decide_eq_false_iff_not, if_true, if_false, Bool.false_eq_true, reduceCtorEq, Bool.true_eq_false, decide_true, decide_false]
    refine take_ B1 (by decide) (by decide) fun r2 H2 hr2 B2 => ?_
    simp only [tSeq, tAsg, tAnd, tOr, tNot, tTest, tB, tOp, tUn, tCB, tCons, tNil, tVar, tC, gName, rI0, rI, rU, rEq, rNe, rIxS, rIxL, rIxT, tRet, tRetN, tTup, tLst, tSl, tPart, tNoPart, rSlS, tIf, tIfS, tNext, tDrop, tCall, tBM, tBM0, tAndV, tOrV, tNotV, tM0, tM1, gSub, rSetL, sFld, gCons_eq, gNil_eq, tDGet, sDPut, tMeth, tMake, tFld, tChain, tIsN, tNotN,
  List.set_cons_zero, List.set_cons_succ, exists_eq_left', exists_eq_left, exists_eq, V.int.injEq, V.str.injEq, V.bl.injEq, V.ref.injEq, List.cons.injEq, and_true, true_and, List.getElem?_cons_zero, List.getElem?_cons_succ, Option.some.injEq, List.append_nil, exists_and_left, cxOf_K, false_and, and_false, exists_false, false_or, or_false, exists_eq', exists_const, sg_eq, S_eq, S_toList, S_ne, tFor_eq, tLc_eq, iList_eq, iTup_eq, iRng1_eq, iStr_eq, decide_eq_true_eq, Bool.not_eq_true', decide_eq_false_iff_not, if_true, if_false, Bool.false_eq_true, reduceCtorEq, Bool.true_eq_false, decide_true, decide_false]
    refine ite2 (fun _ => ⟨(size_le (by simp only [List.length_cons, List.length_nil]; decide)), ?_⟩) (fun _ => ?_)
    · (intro p np; generalize hqp : upd _ p _ = H3; obtain ⟨G3, gp, e3, B3, f3⟩ := alB_ B2 np hqp; clear hqp np)
      refine take_ B3 (by decide) (by decide) fun r3 H4 hr3 B4 => ⟨_, _, rfl, sq_of (B4.ex _ _ f3), ?_⟩
      match r3, hr3 with
      | 0, _ => exact ⟨_, rfl, fin _ _ ⟨1, rfl, by decide, by decide, B4.weak e3⟩⟩
      | 1, _ => exact ⟨_, rfl, fin _ _ ⟨2, rfl, by decide, by decide, B4.weak e3⟩⟩
      | 2, _ => exact ⟨_, rfl, fin _ _ ⟨4, rfl, by decide, by decide, B4.weak e3⟩⟩
      | 3, _ => exact ⟨_, rfl, fin _ _ ⟨3, rfl, by decide, by decide, B4.weak e3⟩⟩
      | 4, _ => exact ⟨_, rfl, fin _ _ ⟨5, rfl, by decide, by decide, B4.weak e3⟩⟩
      | 5, _ => exact ⟨_, rfl, fin _ _ ⟨512, rfl, by decide, by decide, B4.weak e3⟩⟩
      | n + 6, h => exact absurd h (by omega)
    · refine fin _ _ ⟨1 + r1, ?_, by omega, by omega, B2⟩
      rw [Int.natCast_add]
      rfl
  rintro σ H2 ⟨n, rfl, h1, h2, B2⟩
  simp only [tSeq, tAsg, tAnd, tOr, tNot, tTest, tB, tOp, tUn, tCB, tCons, tNil, tVar, tC, gName, rI0, rI, rU, rEq, rNe, rIxS, rIxL, rIxT, tRet, tRetN, tTup, tLst, tSl, tPart, tNoPart, rSlS, tIf, tIfS, tNext, tDrop, tCall, tBM, tBM0, tAndV, tOrV, tNotV, tM0, tM1, gSub, rSetL, sFld, gCons_eq, gNil_eq, tDGet, sDPut, tMeth, tMake, tFld, tChain, tIsN, tNotN,
  List.set_cons_zero, List.set_cons_succ, exists_eq_left', exists_eq_left, exists_eq, V.int.injEq, V.str.injEq, V.bl.injEq, V.ref.injEq, List.cons.injEq, and_true, true_and, List.getElem?_cons_zero, List.getElem?_cons_succ, Option.some.injEq, List.append_nil, exists_and_left, cxOf_K, false_and, and_false, exists_false, false_or, or_false, exists_eq', exists_const, sg_eq, S_eq, S_toList, S_ne, tFor_eq, tLc_eq, iList_eq, iTup_eq, iRng1_eq, iStr_eq, decide_eq_true_eq, Bool.not_eq_true', decide_eq_false_iff_not, if_true, if_false, Bool.false_eq_true, reduceCtorEq, Bool.true_eq_false, decide_true, decide_false]
  refine ⟨by decide, by decide, fun L hL => ?_⟩
  refine comp_range (n := 10) (fun i acc H4 => acc = (((List.range i).filter fun k => n / 2 ^ k % 2 == 1).map fun k => V.str (S [97 + k])) ∧ Same H2 H4) (by decide) ⟨rfl, same_new hL⟩ upd_same ?_ ?_
  · rintro i acc H4 hi hA hn hi2 ⟨rfl, s4⟩
    simp only [wipe, List.map_cons, List.map_nil, List.set_cons_succ, List.set_cons_zero, tSeq, tAsg, tAnd, tOr, tNot, tTest, tB, tOp, tUn, tCB, tCons, tNil, tVar, tC, gName, rI0, rI, rU, rEq, rNe, rIxS, rIxL, rIxT, tRet, tRetN, tTup, tLst, tSl, tPart, tNoPart, rSlS, tIf, tIfS, tNext, tDrop, tCall, tBM, tBM0, tAndV, tOrV, tNotV, tM0, tM1, gSub, rSetL, sFld, gCons_eq, gNil_eq, tDGet, sDPut, tMeth, tMake, tFld, tChain, tIsN, tNotN,
  List.set_cons_zero, List.set_cons_succ, exists_eq_left', exists_eq_left, exists_eq, V.int.injEq, V.str.injEq, V.bl.injEq, V.ref.injEq, List.cons.injEq, and_true, true_and, List.getElem?_cons_zero, List.getElem?_cons_succ, Option.some.injEq, List.append_nil, exists_and_left, cxOf_K, false_and, and_false, exists_false, false_or, or_false, exists_eq', exists_const, sg_eq, S_eq, S_toList, S_ne, tFor_eq, tLc_eq, iList_eq, iTup_eq, iRng1_eq, iStr_eq, decide_eq_true_eq, Bool.not_eq_true', decide_eq_false_iff_not, if_true, if_false, Bool.false_eq_true, reduceCtorEq, Bool.true_eq_false, decide_true, decide_false]
    refine ⟨(size_le (by simp only [List.length_cons, List.length_nil]; decide)), fun p np => ?_⟩
    obtain ⟨e1, e2⟩ : atI [V.int 1, V.int 2, V.int 4, V.int 8, V.int 16, V.int 32, V.int 64, V.int 128, V.int 256, V.int 512] (i : Int) = some (.int ((2 ^ i : Nat) : Int)) ∧ atI [97, 98, 99, 100, 101, 102, 103, 104, 105, 106] (i : Int) = some (97 + i) := bits_at i hi
    have hA2 : (upd H4 p (.lst [V.int 1, V.int 2, V.int 4, V.int 8, V.int 16, V.int 32, V.int 64, V.int 128, V.int 256, V.int 512])) L = some (.lst (((List.range i).filter fun k => n / 2 ^ k % 2 == 1).map fun k => V.str (S [97 + k]))) := by
      rw [upd_ne (ne_of_none hA np)]
      exact hA
    refine ⟨_, sq_of upd_same, _, e1, _, rfl, CDivN_ok _ _ (Nat.two_pow_pos i) (pow_lt10 i hi), by decide, ?_⟩
    rw [bit_test]
    have e3 : (List.range (i + 1)).filter (fun k => n / 2 ^ k % 2 == 1) = if n / 2 ^ i % 2 == 1 then (List.range i).filter (fun k => n / 2 ^ k % 2 == 1) ++ [i] else (List.range i).filter (fun k => n / 2 ^ k % 2 == 1) := by
      rw [List.range_succ, List.filter_append]
      cases hb : n / 2 ^ i % 2 == 1 <;> simp [hb]
    cases hb : n / 2 ^ i % 2 == 1 with
    | true =>
      rw [hb] at e3
      simp only [if_true] at e3 ⊢
      refine ⟨(size_le (by (try simp only [S_len, List.length_append, List.length_cons, List.length_nil]); omega)), _, e2, cput hA2 hn hi2 ⟨?_, same_mut (s4.trans (same_new np)) hL⟩⟩
      rw [e3, List.map_append]
      rfl
    | false =>
      rw [hb] at e3
      simp only [Bool.false_eq_true, if_false] at e3 ⊢
      refine cskip hA2 hn ⟨?_, s4.trans (same_new np)⟩
      rw [e3]
  · rintro acc H4 hA hn ⟨rfl, s4⟩
    have e1 : (((List.range 10).filter fun k => n / 2 ^ k % 2 == 1).map fun k => V.str (S [97 + k])) = ((strokeT n).map fun c => S [c]).map V.str := by
      rw [strokeT, List.map_map, List.map_map]
      rfl
    rw [e1] at hA
    have h10 := stroke_ok n (by omega) h1
    refine ⟨L, rfl, _, .inl (sq_of hA), signs_size _ (by omega), ?_⟩
    rw [join_signs]
    exact k n H4 h1 h2 (B2.same s4)
theorem stroke_ {b : Addr} {G H : Hp} {Q : VK} {E : XK} (B : Bx b G H) (k : ∀ (n : Nat) H', 1 ≤ n → n ≤ 1023 → Bx b G H' → Q (.str (S (strokeT n))) H') : sp_stroke [.ref b] H Q E := ⟨b, G, rfl, B, k⟩
end
/-! ### the law of what is shown -/
abbrev s_law : Stmt := (top 28)
theorem sc_law : FnScope ["_law_script", "_law_box", "_law_pieces", "_law_k", "_law_entry_here", "_law_handed", "_law_told"] ["_law_script"] (defScope s_law) := ⟨rfl, rfl, rfl, by decide +kernel, rfl, by decide +kernel, by decide +kernel⟩

def sp_law (K : PySem.W.Frag) : Sp := fun vs H Q _ => ∃ (a : Addr) (ns : List Int), vs = [.ref a] ∧ SqL K H a (ns.map V.int) ∧ ns.length ≤ 63 ∧ ∀ H', Q (.bl true) H'
/-- a piece that is drawn -/
def drawn (p : Pie) : Prop := pieOk p ∧ ∃ t, p.1 = [t] ∧ 1 ≤ t.length ∧ asc t
theorem pie_okD {p : Pie} (h : drawn p) : okD 6 (pieD p) := by
  obtain ⟨⟨_, _, _, _, h5⟩, t, e, _, ha⟩ := h
  refine ⟨by show 2 ≤ 100000; decide, fun d hd => ?_⟩
  have hd : d ∈ [rowD p.1, optD p.2] := hd
  rw [List.mem_cons, List.mem_singleton] at hd
  rcases hd with rfl | rfl
  · rw [e]
    refine ⟨by show 1 ≤ 100000; decide, fun d hd => ?_⟩
    rw [List.mem_singleton.mp (show d ∈ [dS t] from hd)]
    exact dS_ok ha
  · obtain ⟨r, o⟩ := p
    cases o with
    | none => trivial
    | some en =>
      obtain ⟨h1, h2⟩ := h5 en rfl
      exact (ent_ok (by omega) h2).mono
theorem pie_noL (p : Pie) : noL (pieD p) = true := by
  obtain ⟨r, o⟩ := p
  have h1 : ∀ r : List Tx, noLs (r.map dS) = true := fun r => by
    induction r with
    | nil => rfl
    | cons t r ih => simp only [List.map_cons, noLs, dS, noL, ih, Bool.and_self]
  have h2 : noL (optD o) = true := by
    cases o with
    | none => rfl
    | some e => exact ent_noL e
  have h3 : noL (rowD r) = true := h1 r
  simp only [pieD, noL, noLs, h2, h3, Bool.and_self]
theorem pies_noL : ∀ ps : List Pie, noLs (ps.map pieD) = true
  | [] => rfl
  | p :: r => by simp only [List.map_cons, noLs, pie_noL, pies_noL r, Bool.and_self]
def lawInv (K : PySem.W.Frag) (a b p : Addr) (i : Nat) (σ : L2.St) (H : Hp) : Prop := ∃ (G : Hp) (xs : List V) (ps : List Pie) (y3 y4 : Option V), σ = [some (.ref a), some (.ref b), some (.ref p), y3, y4, none, none] ∧ Bx b G H ∧ G p = some (.lst xs) ∧ DpAll K G xs (ps.map pieD) ∧ ps.length = i ∧ ∀ q ∈ ps, drawn q
section
variable {P : Program} {w : World} {K : PySem.W.Frag} {mg : Str → Option Value} {base : Heap}
theorem ok_law {f : Addr} {fd : FuncData} (F : FunS K "law" s_law f fd) (b_isinstance : mg "isinstance" = none) (b_list : mg "list" = none) (b_range : mg "range" = none) (b_str : mg "str" = none) (c_l_begun : Cal P w K mg base CX0 1 "_law_begun" (sp_begun K)) (c_l_take : Cal P w K mg base CX0 1 "_law_take" sp_take) (c_l_entry : Cal P w K mg base CX0 5 "_law_entry" (sp_entry K)) (c_l_stroke : Cal P w K mg base CX0 2 "_law_stroke" sp_stroke) (c_shown : Cal P w K mg base CX0 7 "shown" (sp_shown K)) (c_l_shown : Cal P w K mg base CX0 6 "_law_shown" (sp_lshown K)) : FnOk P w K mg base CX0 9 f fd ["_law_script"] (sp_law K) := by
  refine F.ok sc_law (fun vs H Q E h => ?_) (fun cdv A outer s H vs Q E hr h => ?_)
  · obtain ⟨a, ns, rfl, _⟩ := h
    rfl
  obtain ⟨a, ns, rfl, hS, hn, k⟩ := h
  refine ⟨_, PSs.nox (pss_cons (ps_set (i := 1) sc_law.nd rfl (.inl rfl) (pe_c c_l_begun hr (by first | decide | omega) (by rfl) (pa_cons (pv 0) pa_nil)))
  (pss_cons (ps_set (i := 2) sc_law.nd rfl (.inl rfl) (pe_lst pa_nil))
  (pss_cons (ps_for PassesOwn.never rfl (pi_range1 (by rfl) b_range (pa_cons (pe_op op_add pe_int (pe_c c_l_take hr (by first | decide | omega) (by rfl) (pa_cons (pv 1) (pa_cons pe_int pa_nil)))) pa_nil)) (pg_name (i := 3) sc_law.nd rfl (.inl rfl))
    (pss_cons (ps_set (i := 4) sc_law.nd rfl (.inl rfl) (pe_c c_l_entry hr (by first | decide | omega) (by rfl) (pa_cons (pv 1) pa_nil)))
  (pss_cons (ps_if (pt_cmpR op_eq (pe_c c_l_take hr (by first | decide | omega) (by rfl) (pa_cons (pv 1) (pa_cons pe_int pa_nil))) pe_int (nomark _))
    (pss_one (ps_set (i := 4) sc_law.nd rfl (.inl rfl) (pe_ix ix_list (pe_lst (pa_cons pe_non (pa_cons (pe_tup (pa_cons (pe_tup (pa_cons pe_str pa_nil)) pa_nil)) (pa_cons (pe_tup (pa_cons (pe_tup (pa_cons pe_str pa_nil)) pa_nil)) pa_nil)))) (pe_c c_l_take hr (by first | decide | omega) (by rfl) (pa_cons (pv 1) (pa_cons pe_int pa_nil))) (fun _ _ => rfl))))
    pss_nil)
  (pss_one (ps_expr (pe_bm PySem.F.plainAttrs_list PySem.F.slot_list_append PySem.F.type_list_append mt_append (pv 2) (pa_cons (pe_tup (pa_cons (pe_tup (pa_cons (pe_c c_l_stroke hr (by first | decide | omega) (by rfl) (pa_cons (pv 1) pa_nil)) pa_nil)) (pa_cons (pv 4) pa_nil))) pa_nil)))))))
  (pss_cons (ps_set (i := 5) sc_law.nd rfl (.inl rfl) (pe_callTy call_list_of (by rfl) b_list (by decide +kernel) (pa_cons (pv 2) pa_nil)))
  (pss_cons (ps_set (i := 6) sc_law.nd rfl (.inl rfl) (pe_c c_shown hr (by first | decide | omega) (by rfl) (pa_cons (pv 5) pa_nil)))
  (pss_one (ps_ret (pe_and (pe_callB call_isi (by rfl) b_isinstance (by decide +kernel) (pa_cons (pv 6) (pa_cons (pe_bltn (v := .ty "str") (by rfl) b_str (by decide +kernel) rfl) pa_nil))) (pe_and (pe_cmpR op_eq (pv 6) (pe_c c_l_shown hr (by first | decide | omega) (by rfl) (pa_cons (pv 2) pa_nil)) (nomark _)) (pe_one (pe_cmpR (op_eqD hr.units) (pv 5) (pv 2) (nomark _)))))))))))), ?_⟩
  simp only [tSeq, tAsg, tAnd, tOr, tNot, tTest, tB, tOp, tUn, tCB, tCons, tNil, tVar, tC, gName, rI0, rI, rU, rEq, rNe, rIxS, rIxL, rIxT, tRet, tRetN, tTup, tLst, tSl, tPart, tNoPart, rSlS, tIf, tIfS, tNext, tDrop, tCall, tBM, tBM0, tAndV, tOrV, tNotV, tM0, tM1, gSub, rSetL, sFld, gCons_eq, gNil_eq, tDGet, sDPut, tMeth, tMake, tFld, tChain, tIsN, tNotN,
  List.set_cons_zero, List.set_cons_succ, exists_eq_left', exists_eq_left, exists_eq, V.int.injEq, V.str.injEq, V.bl.injEq, V.ref.injEq, List.cons.injEq, and_true, true_and, List.getElem?_cons_zero, List.getElem?_cons_succ, Option.some.injEq, List.append_nil, exists_and_left, cxOf_K, false_and, and_false, exists_false, false_or, or_false, exists_eq', exists_const, sg_eq, S_eq, S_toList, S_ne, tFor_eq, tLc_eq, iList_eq, iTup_eq, iRng1_eq, iStr_eq, decide_eq_true_eq, Bool.not_eq_true', decide_eq_false_iff_not, if_true, if_false, Bool.false_eq_true, reduceCtorEq, Bool.true_eq_false, decide_true, decide_false, lit_98_97_99_107, lit_97_103_97_105_110, start1_7]
  refine ⟨a, ns, rfl, hS, hn, fun b G H1 e1 B1 => ?_⟩
  refine ⟨(size_le (by simp only [List.length_cons, List.length_nil]; decide)), ?_⟩
  (intro p np; generalize hqp : upd _ p _ = H2; obtain ⟨G2, gp, e2, B2, f2⟩ := alB_ B1 np hqp; clear hqp np)
  refine take_ B2 (by decide) (by decide) fun r1 H3 hr1 B3 => ?_
  try simp only [tSeq, tAsg, tAnd, tOr, tNot, tTest, tB, tOp, tUn, tCB, tCons, tNil, tVar, tC, gName, rI0, rI, rU, rEq, rNe, rIxS, rIxL, rIxT, tRet, tRetN, tTup, tLst, tSl, tPart, tNoPart, rSlS, tIf, tNext, tDrop, tCall, tBM, tBM0, tAndV, tOrV, tNotV, tM0, tM1, gSub, rSetL, sFld, gCons_eq, gNil_eq, tDGet, sDPut, tMeth, tMake, tFld, tChain, tIsN, tNotN,
  List.set_cons_zero, List.set_cons_succ, exists_eq_left', exists_eq_left, exists_eq, V.int.injEq, V.str.injEq, V.bl.injEq, V.ref.injEq, List.cons.injEq, and_true, true_and, List.getElem?_cons_zero, List.getElem?_cons_succ, Option.some.injEq, List.append_nil, exists_and_left, cxOf_K, false_and, and_false, exists_false, false_or, or_false, exists_eq', exists_const, sg_eq, S_eq, S_toList, S_ne, tFor_eq, tLc_eq, iList_eq, iTup_eq, iRng1_eq, iStr_eq, decide_eq_true_eq, Bool.not_eq_true', decide_eq_false_iff_not, if_true, if_false, Bool.false_eq_true, reduceCtorEq, Bool.true_eq_false, decide_true, decide_false]
  have ez : (1 + (r1 : Int)).toNat = 1 + r1 := by omega
  refine ⟨by omega, by omega, ?_⟩
  rw [ez]
  refine loop_range (n := 1 + r1) (lawInv K a b p) ⟨G2, [], [], none, none, rfl, B3, f2, .nil, rfl, fun _ h => nomatch h⟩ ?_ ?_
  · rintro i σ H4 hi ⟨G4, xs, ps, y3, y4, rfl, B4, f4, hd, hl, ho⟩
    try simp only [tSeq, tAsg, tAnd, tOr, tNot, tTest, tB, tOp, tUn, tCB, tCons, tNil, tVar, tC, gName, rI0, rI, rU, rEq, rNe, rIxS, rIxL, rIxT, tRet, tRetN, tTup, tLst, tSl, tPart, tNoPart, rSlS, tIf, tNext, tDrop, tCall, tBM, tBM0, tAndV, tOrV, tNotV, tM0, tM1, gSub, rSetL, sFld, gCons_eq, gNil_eq, tDGet, sDPut, tMeth, tMake, tFld, tChain, tIsN, tNotN,
  List.set_cons_zero, List.set_cons_succ, exists_eq_left', exists_eq_left, exists_eq, V.int.injEq, V.str.injEq, V.bl.injEq, V.ref.injEq, List.cons.injEq, and_true, true_and, List.getElem?_cons_zero, List.getElem?_cons_succ, Option.some.injEq, List.append_nil, exists_and_left, cxOf_K, false_and, and_false, exists_false, false_or, or_false, exists_eq', exists_const, sg_eq, S_eq, S_toList, S_ne, tFor_eq, tLc_eq, iList_eq, iTup_eq, iRng1_eq, iStr_eq, decide_eq_true_eq, Bool.not_eq_true', decide_eq_false_iff_not, if_true, if_false, Bool.false_eq_true, reduceCtorEq, Bool.true_eq_false, decide_true, decide_false]
    refine entry_ B4 fun v e G5 H5 h1 h4 he s5 B5 hv => ?_
    try simp only [tSeq, tAsg, tAnd, tOr, tNot, tTest, tB, tOp, tUn, tCB, tCons, tNil, tVar, tC, gName, rI0, rI, rU, rEq, rNe, rIxS, rIxL, rIxT, tRet, tRetN, tTup, tLst, tSl, tPart, tNoPart, rSlS, tIf, tNext, tDrop, tCall, tBM, tBM0, tAndV, tOrV, tNotV, tM0, tM1, gSub, rSetL, sFld, gCons_eq, gNil_eq, tDGet, sDPut, tMeth, tMake, tFld, tChain, tIsN, tNotN,
  List.set_cons_zero, List.set_cons_succ, exists_eq_left', exists_eq_left, exists_eq, V.int.injEq, V.str.injEq, V.bl.injEq, V.ref.injEq, List.cons.injEq, and_true, true_and, List.getElem?_cons_zero, List.getElem?_cons_succ, Option.some.injEq, List.append_nil, exists_and_left, cxOf_K, false_and, and_false, exists_false, false_or, or_false, exists_eq', exists_const, sg_eq, S_eq, S_toList, S_ne, tFor_eq, tLc_eq, iList_eq, iTup_eq, iRng1_eq, iStr_eq, decide_eq_true_eq, Bool.not_eq_true', decide_eq_false_iff_not, if_true, if_false, Bool.false_eq_true, reduceCtorEq, Bool.true_eq_false, decide_true, decide_false]
    refine if_fin (fun σ' H' => ∃ v o G6, σ' = [some (.ref a), some (.ref b), some (.ref p), some (.int (i : Int)), some v, none, none] ∧ (∀ e, o = some e → e.length ≤ 4 ∧ ∀ a ∈ e, actOk a) ∧ Same G5 G6 ∧ Bx b G6 H' ∧ Dp K G6 v (optD o)) ?_ ?_
    rotate_left
    · intro nx fin
      simp only [tSeq, tAsg, tAnd, tOr, tNot, tTest, tB, tOp, tUn, tCB, tCons, tNil, tVar, tC, gName, rI0, rI, rU, rEq, rNe, rIxS, rIxL, rIxT, tRet, tRetN, tTup, tLst, tSl, tPart, tNoPart, rSlS, tIf, tIfS, tNext, tDrop, tCall, tBM, tBM0, tAndV, tOrV, tNotV, tM0, tM1, gSub, rSetL, sFld, gCons_eq, gNil_eq, tDGet, sDPut, tMeth, tMake, tFld, tChain, tIsN, tNotN,
  List.set_cons_zero, List.set_cons_succ, exists_eq_left', exists_eq_left, exists_eq, V.int.injEq, V.str.injEq, V.bl.injEq, V.ref.injEq, List.cons.injEq, and_true, true_and, List.getElem?_cons_zero, List.getElem?_cons_succ, Option.some.injEq, List.append_nil, exists_and_left, cxOf_K, false_and, and_false, exists_false, false_or, or_false, exists_eq', exists_const, sg_eq, S_eq, S_toList, S_ne, tFor_eq, tLc_eq, iList_eq, iTup_eq, iRng1_eq, iStr_eq, decide_eq_true_eq, Bool.not_eq_true', decide_eq_false_iff_not, if_true, if_false, Bool.false_eq_true, reduceCtorEq, Bool.true_eq_false, decide_true, decide_false]
      refine take_ B5 (by decide) (by decide) fun r2 H6 hr2 B6 => ⟨rfl, ite2 (fun _ => ⟨(size_le (by simp only [List.length_cons, List.length_nil]; decide)), ?_⟩) (fun _ => ?_)⟩
      · (intro p1 np1; generalize hqp1 : upd _ p1 _ = Ha; obtain ⟨Ga, gp1, ea, Ba, fa⟩ := alB_ B6 np1 hqp1; clear hqp1 np1)
        refine ⟨(size_le (by simp only [List.length_cons, List.length_nil]; decide)), ?_⟩
        (intro p2 np2; generalize hqp2 : upd _ p2 _ = Hb; obtain ⟨Gb, gp2, eb, Bb, fb⟩ := alB_ Ba np2 hqp2; clear hqp2 np2)
        refine ⟨(size_le (by simp only [List.length_cons, List.length_nil]; decide)), ?_⟩
        (intro p3 np3; generalize hqp3 : upd _ p3 _ = Hc; obtain ⟨Gc, gp3, ec, Bc, fc⟩ := alB_ Bb np3 hqp3; clear hqp3 np3)
        refine ⟨(size_le (by simp only [List.length_cons, List.length_nil]; decide)), ?_⟩
        (intro p4 np4; generalize hqp4 : upd _ p4 _ = Hd; obtain ⟨Gd, gp4, ed, Bd, fd⟩ := alB_ Bc np4 hqp4; clear hqp4 np4)
        refine ⟨(size_le (by simp only [List.length_cons, List.length_nil]; decide)), ?_⟩
        (intro p5 np5; generalize hqp5 : upd _ p5 _ = He; obtain ⟨Ge, gp5, ee, Be, fe⟩ := alB_ Bd np5 hqp5; clear hqp5 np5)
        refine take_ Be (by decide) (by decide) fun r3 H7 hr3 B7 => ⟨_, _, rfl, sq_of (B7.ex _ _ fe), ?_⟩
        have sall : Same G5 Ge := (((ea.trans eb).trans ec).trans ed).trans ee
        match r3, hr3 with
        | 0, _ => exact ⟨_, rfl, fin _ _ ⟨_, none, Ge, rfl, fun _ h => (nomatch h), sall, B7, .non⟩⟩
        | 1, _ => exact ⟨_, rfl, fin _ _ ⟨_, some [.back], Ge, rfl, fun e he => by cases he; exact ⟨by decide, fun a ha => by rw [List.mem_singleton.mp ha]; trivial⟩, sall, B7, .tup (st_of (ee _ _ (ed _ _ (ec _ _ fb)))) (.cons (.tup (st_of (ee _ _ (ed _ _ (ec _ _ (eb _ _ fa))))) (dp_strs [S wBack])) .nil)⟩⟩
        | 2, _ => exact ⟨_, rfl, fin _ _ ⟨_, some [.again], Ge, rfl, fun e he => by cases he; exact ⟨by decide, fun a ha => by rw [List.mem_singleton.mp ha]; trivial⟩, sall, B7, .tup (st_of (ee _ _ fd)) (.cons (.tup (st_of (ee _ _ (ed _ _ fc))) (dp_strs [S wAgain])) .nil)⟩⟩
        | n + 3, h => exact absurd h (by omega)
      · exact fin _ _ ⟨v, some e, G5, rfl, fun e' he' => by cases he'; exact ⟨h4, fun a ha => (he a ha).1⟩, Same.refl _, B6, hv⟩
    rintro σ H6 ⟨v2, o, G6, rfl, ho2, s6, B6, hv2⟩
    try simp only [tSeq, tAsg, tAnd, tOr, tNot, tTest, tB, tOp, tUn, tCB, tCons, tNil, tVar, tC, gName, rI0, rI, rU, rEq, rNe, rIxS, rIxL, rIxT, tRet, tRetN, tTup, tLst, tSl, tPart, tNoPart, rSlS, tIf, tNext, tDrop, tCall, tBM, tBM0, tAndV, tOrV, tNotV, tM0, tM1, gSub, rSetL, sFld, gCons_eq, gNil_eq, tDGet, sDPut, tMeth, tMake, tFld, tChain, tIsN, tNotN,
  List.set_cons_zero, List.set_cons_succ, exists_eq_left', exists_eq_left, exists_eq, V.int.injEq, V.str.injEq, V.bl.injEq, V.ref.injEq, List.cons.injEq, and_true, true_and, List.getElem?_cons_zero, List.getElem?_cons_succ, Option.some.injEq, List.append_nil, exists_and_left, cxOf_K, false_and, and_false, exists_false, false_or, or_false, exists_eq', exists_const, sg_eq, S_eq, S_toList, S_ne, tFor_eq, tLc_eq, iList_eq, iTup_eq, iRng1_eq, iStr_eq, decide_eq_true_eq, Bool.not_eq_true', decide_eq_false_iff_not, if_true, if_false, Bool.false_eq_true, reduceCtorEq, Bool.true_eq_false, decide_true, decide_false]
    have s46 : Same G4 G6 := s5.trans s6
    refine ⟨.inl ⟨rfl, _, sq_of (B6.ex _ _ (s46 _ _ f4))⟩, ?_⟩
    refine stroke_ B6 fun sn H7 hn1 hn2 B7 => ⟨(size_le (by simp only [List.length_cons, List.length_nil]; decide)), ?_⟩
    (intro p1 np1; generalize hqp1 : upd _ p1 _ = Ha; obtain ⟨Ga, gp1, ea, Ba, fa⟩ := alB_ B7 np1 hqp1; clear hqp1 np1)
    refine ⟨(size_le (by simp only [List.length_cons, List.length_nil]; decide)), ?_⟩
    (intro p2 np2; generalize hqp2 : upd _ p2 _ = Hb; obtain ⟨Gb, gp2, eb, Bb, fb⟩ := alB_ Ba np2 hqp2; clear hqp2 np2)
    have s4b : Same G4 Gb := (s46.trans ea).trans eb
    have fp := s4b _ _ f4
    refine ⟨p, xs, _, rfl, rfl, Bb.ex _ _ fp, size_lt (by rw [DpAll.len hd, List.length_map]; omega), ?_⟩
    have hso := stroke_ok sn (by omega) hn1
    have hsa := stroke_asc sn
    have kt : KT Gb (upd Gb p (.lst (xs ++ [.ref p2]))) := KT.putL fp
    refine ⟨upd Gb p (.lst (xs ++ [.ref p2])), xs ++ [.ref p2], ps ++ [([strokeT sn], o)], _, _, rfl, Bb.put fp, upd_same, ?_, by rw [List.length_append, List.length_singleton, hl], fun q hq => ?_⟩
    · rw [List.map_append]
      refine DpAll.app (DpAll.kt kt (pies_noL ps) (DpAll.ext s4b hd)) (.cons (Dp.kt kt (pie_noL _) (.tup (st_of fb) (.cons (.tup (st_of (eb _ _ fa)) (dp_strs [S (strokeT sn)])) (.cons (Dp.ext (ea.trans eb) hv2) .nil)))) .nil)
    · rcases List.mem_append.mp hq with h | h
      · exact ho q h
      · rw [List.mem_singleton.mp h]
        refine ⟨⟨hsa, Nat.le_trans hso.2 (by decide), by show 1 ≤ 6; decide, fun t ht => ?_, ho2⟩, _, rfl, hso.1, hsa⟩
        rw [List.mem_singleton.mp ht]
        exact Nat.le_trans hso.2 (by decide)
  · rintro σ H4 ⟨G4, xs, ps, y3, y4, rfl, B4, f4, hd, hl, ho⟩
    simp only [tSeq, tAsg, tAnd, tOr, tNot, tTest, tB, tOp, tUn, tCB, tCons, tNil, tVar, tC, gName, rI0, rI, rU, rEq, rNe, rIxS, rIxL, rIxT, tRet, tRetN, tTup, tLst, tSl, tPart, tNoPart, rSlS, tIf, tIfS, tNext, tDrop, tCall, tBM, tBM0, tAndV, tOrV, tNotV, tM0, tM1, gSub, rSetL, sFld, gCons_eq, gNil_eq, tDGet, sDPut, tMeth, tMake, tFld, tChain, tIsN, tNotN,
  List.set_cons_zero, List.set_cons_succ, exists_eq_left', exists_eq_left, exists_eq, V.int.injEq, V.str.injEq, V.bl.injEq, V.ref.injEq, List.cons.injEq, and_true, true_and, List.getElem?_cons_zero, List.getElem?_cons_succ, Option.some.injEq, List.append_nil, exists_and_left, cxOf_K, false_and, and_false, exists_false, false_or, or_false, exists_eq', exists_const, sg_eq, S_eq, S_toList, S_ne, tFor_eq, tLc_eq, iList_eq, iTup_eq, iRng1_eq, iStr_eq, decide_eq_true_eq, Bool.not_eq_true', decide_eq_false_iff_not, if_true, if_false, Bool.false_eq_true, reduceCtorEq, Bool.true_eq_false, decide_true, decide_false]
    have hp := B4.ex _ _ f4
    have hl6 : ps.length ≤ 6 := by omega
    have sp2 : ∀ {G' : Hp}, Same G4 G' → DpAll K G' xs (ps.map pieD) := fun s => DpAll.ext s hd
    refine ⟨xs, .inl (sq_of hp), fun l nl => ?_⟩
    generalize hq : upd H4 l _ = H5
    obtain ⟨s5, f5⟩ := al_ nl hq
    refine ⟨l, xs, ps, rfl, sq_of f5, DpAll.ext (B4.1.trans s5) hd, by omega, fun q h => (ho q h).1, fun H6 s6 => ?_⟩
    refine isi (d := .str _) (.str _) rfl ⟨_, rfl, ?_⟩
    rw [if_pos rfl]
    have s46 : Same G4 H6 := (B4.1.trans s5).trans s6
    refine ⟨p, xs, ps, rfl, sq_of (s46 _ _ f4), DpAll.ext s46 hd, by omega, fun q h => ⟨(ho q h).1, ?_⟩, fun H7 s7 => ⟨rfl, ?_⟩⟩
    · obtain ⟨_, t, e, h1, _⟩ := ho q h
      exact ⟨t, e, h1⟩
    · rw [if_pos rfl]
      have s47 := s46.trans s7
      have d1 : Dp K H7 (.ref l) (.list (ps.map pieD)) := .lst (sq_of (s7 _ _ (s6 _ _ f5))) (DpAll.ext s47 hd)
      have d2 : Dp K H7 (.ref p) (.list (ps.map pieD)) := .lst (sq_of (s47 _ _ f4)) (DpAll.ext s47 hd)
      have okl : okD 7 (.list (ps.map pieD)) := ⟨by rw [List.length_map]; omega, fun d hd => by
        obtain ⟨q, hq, rfl⟩ := List.mem_map.mp hd
        exact pie_okD (ho q hq)⟩
      have sh := okl.shaped (by decide)
      refine ⟨_, _, d1, d2, sh, sh, ?_⟩
      rw [okl.eqv]
      exact k _
end
def d_l_begun : He.DefD := ⟨("_law_begun", none), "_law_begun", "_law_begun", defArgs s_l_begun, defBody s_l_begun, defScope s_l_begun, [], []⟩
def d_l_take : He.DefD := ⟨("_law_take", none), "_law_take", "_law_take", defArgs s_l_take, defBody s_l_take, defScope s_l_take, [], []⟩
def d_l_word : He.DefD := ⟨("_law_word", none), "_law_word", "_law_word", defArgs s_l_word, defBody s_l_word, defScope s_l_word, [], []⟩
def d_l_ending : He.DefD := ⟨("_law_ending", none), "_law_ending", "_law_ending", defArgs s_l_ending, defBody s_l_ending, defScope s_l_ending, [], []⟩
def d_l_action : He.DefD := ⟨("_law_action", none), "_law_action", "_law_action", defArgs s_l_action, defBody s_l_action, defScope s_l_action, [], []⟩
def d_l_entry : He.DefD := ⟨("_law_entry", none), "_law_entry", "_law_entry", defArgs s_l_entry, defBody s_l_entry, defScope s_l_entry, [], []⟩
def d_l_stroke : He.DefD := ⟨("_law_stroke", none), "_law_stroke", "_law_stroke", defArgs s_l_stroke, defBody s_l_stroke, defScope s_l_stroke, [], []⟩
def d_Shown_init : He.DefD := ⟨("Shown", some "__init__"), "__init__", "Shown.__init__", defArgs s_Shown_init, defBody s_Shown_init, defScope s_Shown_init, [], []⟩
def d_Shown_sized : He.DefD := ⟨("Shown", some "sized"), "sized", "Shown.sized", defArgs s_Shown_sized, defBody s_Shown_sized, defScope s_Shown_sized, [], []⟩
def d_Shown_put : He.DefD := ⟨("Shown", some "put"), "put", "Shown.put", defArgs s_Shown_put, defBody s_Shown_put, defScope s_Shown_put, [], []⟩
def d_Shown_last_word : He.DefD := ⟨("Shown", some "last_word"), "last_word", "Shown.last_word", defArgs s_Shown_last_word, defBody s_Shown_last_word, defScope s_Shown_last_word, [], []⟩
def d_is_consonant : He.DefD := ⟨("is_consonant", none), "is_consonant", "is_consonant", defArgs s_is_consonant, defBody s_is_consonant, defScope s_is_consonant, [], []⟩
def d_is_short : He.DefD := ⟨("is_short", none), "is_short", "is_short", defArgs s_is_short, defBody s_is_short, defScope s_is_short, [], []⟩
def d_joined : He.DefD := ⟨("joined", none), "joined", "joined", defArgs s_joined, defBody s_joined, defScope s_joined, [], []⟩
def d_Shown_ended : He.DefD := ⟨("Shown", some "ended"), "ended", "Shown.ended", defArgs s_Shown_ended, defBody s_Shown_ended, defScope s_Shown_ended, [], []⟩
def d_Shown_join : He.DefD := ⟨("Shown", some "join"), "join", "Shown.join", defArgs s_Shown_join, defBody s_Shown_join, defScope s_Shown_join, [], []⟩
def d_Shown_great_last : He.DefD := ⟨("Shown", some "great_last"), "great_last", "Shown.great_last", defArgs s_Shown_great_last, defBody s_Shown_great_last, defScope s_Shown_great_last, [], []⟩
def d_Shown_do : He.DefD := ⟨("Shown", some "do"), "do", "Shown.do", defArgs s_Shown_do, defBody s_Shown_do, defScope s_Shown_do, [], []⟩
def d_shown : He.DefD := ⟨("shown", none), "shown", "shown", defArgs s_shown, defBody s_shown, defScope s_shown, [], []⟩
def d_l_sized : He.DefD := ⟨("_law_sized", none), "_law_sized", "_law_sized", defArgs s_l_sized, defBody s_l_sized, defScope s_l_sized, [], []⟩
def d_l_put : He.DefD := ⟨("_law_put", none), "_law_put", "_law_put", defArgs s_l_put, defBody s_l_put, defScope s_l_put, [], []⟩
def d_l_small : He.DefD := ⟨("_law_small", none), "_law_small", "_law_small", defArgs s_l_small, defBody s_l_small, defScope s_l_small, [], []⟩
def d_l_cut : He.DefD := ⟨("_law_cut", none), "_law_cut", "_law_cut", defArgs s_l_cut, defBody s_l_cut, defScope s_l_cut, [], []⟩
def d_l_joined : He.DefD := ⟨("_law_joined", none), "_law_joined", "_law_joined", defArgs s_l_joined, defBody s_l_joined, defScope s_l_joined, [], []⟩
def d_l_join : He.DefD := ⟨("_law_join", none), "_law_join", "_law_join", defArgs s_l_join, defBody s_l_join, defScope s_l_join, [], []⟩
def d_l_do : He.DefD := ⟨("_law_do", none), "_law_do", "_law_do", defArgs s_l_do, defBody s_l_do, defScope s_l_do, [], []⟩
def d_l_shown : He.DefD := ⟨("_law_shown", none), "_law_shown", "_law_shown", defArgs s_l_shown, defBody s_l_shown, defScope s_l_shown, [], []⟩
def d_law : He.DefD := ⟨("law", none), "law", "law", defArgs s_law, defBody s_law, defScope s_law, [], []⟩
def fn : List He.DefD := [d_l_begun, d_l_take, d_l_word, d_l_ending, d_l_action, d_l_entry, d_l_stroke, d_Shown_init, d_Shown_sized, d_Shown_put, d_Shown_last_word, d_is_consonant, d_is_short, d_joined, d_Shown_ended, d_Shown_join, d_Shown_great_last, d_Shown_do, d_shown, d_l_sized, d_l_put, d_l_small, d_l_cut, d_l_joined, d_l_join, d_l_do, d_l_shown, d_law]
def fa : List He.Fa := [.glo "_law_begun", .glo "_law_take", .glo "_law_word", .glo "_law_ending", .glo "_law_action", .glo "_law_entry", .glo "_law_stroke", .glo "Shown", .mkr "Shown", .meth "Shown" "sized", .meth "Shown" "put", .meth "Shown" "last_word", .glo "is_consonant", .glo "is_short", .glo "joined", .meth "Shown" "ended", .meth "Shown" "join", .meth "Shown" "great_last", .meth "Shown" "do", .glo "shown", .glo "_law_sized", .glo "_law_put", .glo "_law_small", .glo "_law_cut", .glo "_law_joined", .glo "_law_join", .glo "_law_do", .glo "_law_shown", .glo "law", .free "int", .free "isinstance", .free "len", .free "list", .free "range", .free "str", .free "tuple", .cls "Shown", .noat "Shown" "line", .noat "Shown" "tied", .noat "Shown" "size", .noat "Shown" "glued", .str "LETTERS_endings" (S [97, 98, 99, 100, 101, 102, 103, 104, 105, 106, 107, 108, 109, 110, 111, 112, 113, 114, 115, 116, 117, 118, 119, 120, 121, 122]), .str "LETTERS_showing" (S [97, 98, 99, 100, 101, 102, 103, 104, 105, 106, 107, 108, 109, 110, 111, 112, 113, 114, 115, 116, 117, 118, 119, 120, 121, 122]), .str "VOWELS" (S [97, 101, 105, 111, 117])]
abbrev R : PySem.W.OpenRow := PySem.W.OpenLaw.row PySem.Challenge.rw_chords_k09_shown
def exb (K : PySem.W.Frag) : Bool := true
abbrev hk : PySem.W.Hook := He.hookX 5 fa fn [] [] exb
def ob (s : PySem.W.SharedT) : He.AlX := He.obsX 5 fa fn [] [] exb (HandSHeadRun.getT s)
theorem ob_eq (s : PySem.W.SharedT) : ob s = hk.obs s.abs := He.obsX_eq (HandSHeadRun.getT_eq s)
theorem run (w : World) : HandSHeadRun.RunEq R (PySem.W.view R.prog [28]) hk ob 4000 ["is_consonant", "is_short", "joined", "Shown", "shown", "_law_begun", "_law_take", "_law_stroke", "_law_pool", "_law_row", "_law_word", "_law_ending", "_law_action", "_law_entry", "_law_small", "_law_joined", "_law_sized", "_law_put", "_law_cut", "_law_join", "_law_do", "_law_shown", "VOWELS", "LETTERS_endings", "LETTERS_showing"] w := by
  intro os
  kernel_rfl
theorem facts {P : Program} {w : World} {K : PySem.W.Frag} {h : Heap} {mg : Str → Option Value} {f : Addr} (X : K.In h) (G : h.Ns mainGlobals mg) (hfa : mg ("law" : Str) = some (.ref f)) (c : He.SaysX fa fn [] [] exb w h K) :
    ∃ fd : FuncData, (∀ (s : Shared) (v : Value), BindsTo s fd ⟨[v], []⟩ [("_law_script", v)]) ∧ ∀ base : Heap, K.In base → base.Ns mainGlobals mg → FnOk P w K mg base CX0 20 f fd ["_law_script"] (sp_law K) := by
  have e := hfa.symm.trans (He.glo_ok X G (c.t.d.fact 28 (f := .glo "law") rfl))
  cases e
  have k_Shown : K_Shown K (He.ga K "Shown") := ⟨He.cls_ok (c.t.d.fact 36 (f := .cls "Shown") rfl), He.noat_ok (c.t.d.fact 37 (f := .noat "Shown" "line") rfl), He.noat_ok (c.t.d.fact 38 (f := .noat "Shown" "tied") rfl), He.noat_ok (c.t.d.fact 39 (f := .noat "Shown" "size") rfl), He.noat_ok (c.t.d.fact 40 (f := .noat "Shown" "glued") rfl)⟩
  obtain ⟨fd_l_begun, F_l_begun⟩ : ∃ fd, FunS K "_law_begun" s_l_begun (He.ga K "_law_begun") fd := c.t.d.def_ 0 (d := d_l_begun) rfl
  have m_l_begun : mg "_law_begun" = some (.ref _) := He.glo_ok X G (c.t.d.fact 0 (f := .glo "_law_begun") rfl)
  have n_l_begun := FunD.bindsN (ps := ["_law_script"]) F_l_begun fun _ _ _ _ _ _ us hl => match us, hl with | [_], _ => rfl
  obtain ⟨fd_l_take, F_l_take⟩ : ∃ fd, FunS K "_law_take" s_l_take (He.ga K "_law_take") fd := c.t.d.def_ 1 (d := d_l_take) rfl
  have m_l_take : mg "_law_take" = some (.ref _) := He.glo_ok X G (c.t.d.fact 1 (f := .glo "_law_take") rfl)
  have n_l_take := FunD.bindsN (ps := ["_law_box", "_law_many"]) F_l_take fun _ _ _ _ _ _ us hl => match us, hl with | [_, _], _ => rfl
  obtain ⟨fd_l_word, F_l_word⟩ : ∃ fd, FunS K "_law_word" s_l_word (He.ga K "_law_word") fd := c.t.d.def_ 2 (d := d_l_word) rfl
  have m_l_word : mg "_law_word" = some (.ref _) := He.glo_ok X G (c.t.d.fact 2 (f := .glo "_law_word") rfl)
  have n_l_word := FunD.bindsN (ps := ["_law_box"]) F_l_word fun _ _ _ _ _ _ us hl => match us, hl with | [_], _ => rfl
  obtain ⟨fd_l_ending, F_l_ending⟩ : ∃ fd, FunS K "_law_ending" s_l_ending (He.ga K "_law_ending") fd := c.t.d.def_ 3 (d := d_l_ending) rfl
  have m_l_ending : mg "_law_ending" = some (.ref _) := He.glo_ok X G (c.t.d.fact 3 (f := .glo "_law_ending") rfl)
  have n_l_ending := FunD.bindsN (ps := ["_law_box"]) F_l_ending fun _ _ _ _ _ _ us hl => match us, hl with | [_], _ => rfl
  obtain ⟨fd_l_action, F_l_action⟩ : ∃ fd, FunS K "_law_action" s_l_action (He.ga K "_law_action") fd := c.t.d.def_ 4 (d := d_l_action) rfl
  have m_l_action : mg "_law_action" = some (.ref _) := He.glo_ok X G (c.t.d.fact 4 (f := .glo "_law_action") rfl)
  have n_l_action := FunD.bindsN (ps := ["_law_box"]) F_l_action fun _ _ _ _ _ _ us hl => match us, hl with | [_], _ => rfl
  obtain ⟨fd_l_entry, F_l_entry⟩ : ∃ fd, FunS K "_law_entry" s_l_entry (He.ga K "_law_entry") fd := c.t.d.def_ 5 (d := d_l_entry) rfl
  have m_l_entry : mg "_law_entry" = some (.ref _) := He.glo_ok X G (c.t.d.fact 5 (f := .glo "_law_entry") rfl)
  have n_l_entry := FunD.bindsN (ps := ["_law_box"]) F_l_entry fun _ _ _ _ _ _ us hl => match us, hl with | [_], _ => rfl
  obtain ⟨fd_l_stroke, F_l_stroke⟩ : ∃ fd, FunS K "_law_stroke" s_l_stroke (He.ga K "_law_stroke") fd := c.t.d.def_ 6 (d := d_l_stroke) rfl
  have m_l_stroke : mg "_law_stroke" = some (.ref _) := He.glo_ok X G (c.t.d.fact 6 (f := .glo "_law_stroke") rfl)
  have n_l_stroke := FunD.bindsN (ps := ["_law_box"]) F_l_stroke fun _ _ _ _ _ _ us hl => match us, hl with | [_], _ => rfl
  obtain ⟨fd_Shown_init, F_Shown_init⟩ : ∃ fd, FunM K "__init__" "Shown.__init__" s_Shown_init (He.ma K (He.ga K "Shown") "__init__") fd := c.t.d.def_ 7 (d := d_Shown_init) rfl
  have n_Shown_init := FunD.bindsN (ps := ["self"]) F_Shown_init fun _ _ _ _ _ _ us hl => match us, hl with | [_], _ => rfl
  obtain ⟨fd_Shown_sized, F_Shown_sized⟩ : ∃ fd, FunM K "sized" "Shown.sized" s_Shown_sized (He.ma K (He.ga K "Shown") "sized") fd := c.t.d.def_ 8 (d := d_Shown_sized) rfl
  have n_Shown_sized := FunD.bindsN (ps := ["self", "word"]) F_Shown_sized fun _ _ _ _ _ _ us hl => match us, hl with | [_, _], _ => rfl
  obtain ⟨fd_Shown_put, F_Shown_put⟩ : ∃ fd, FunM K "put" "Shown.put" s_Shown_put (He.ma K (He.ga K "Shown") "put") fd := c.t.d.def_ 9 (d := d_Shown_put) rfl
  have n_Shown_put := FunD.bindsN (ps := ["self", "word", "close"]) F_Shown_put fun _ _ _ _ _ _ us hl => match us, hl with | [_, _, _], _ => rfl
  obtain ⟨fd_Shown_last_word, F_Shown_last_word⟩ : ∃ fd, FunM K "last_word" "Shown.last_word" s_Shown_last_word (He.ma K (He.ga K "Shown") "last_word") fd := c.t.d.def_ 10 (d := d_Shown_last_word) rfl
  have n_Shown_last_word := FunD.bindsN (ps := ["self"]) F_Shown_last_word fun _ _ _ _ _ _ us hl => match us, hl with | [_], _ => rfl
  obtain ⟨fd_is_consonant, F_is_consonant⟩ : ∃ fd, FunS K "is_consonant" s_is_consonant (He.ga K "is_consonant") fd := c.t.d.def_ 11 (d := d_is_consonant) rfl
  have m_is_consonant : mg "is_consonant" = some (.ref _) := He.glo_ok X G (c.t.d.fact 12 (f := .glo "is_consonant") rfl)
  have n_is_consonant := FunD.bindsN (ps := ["sign"]) F_is_consonant fun _ _ _ _ _ _ us hl => match us, hl with | [_], _ => rfl
  obtain ⟨fd_is_short, F_is_short⟩ : ∃ fd, FunS K "is_short" s_is_short (He.ga K "is_short") fd := c.t.d.def_ 12 (d := d_is_short) rfl
  have m_is_short : mg "is_short" = some (.ref _) := He.glo_ok X G (c.t.d.fact 13 (f := .glo "is_short") rfl)
  have n_is_short := FunD.bindsN (ps := ["word"]) F_is_short fun _ _ _ _ _ _ us hl => match us, hl with | [_], _ => rfl
  obtain ⟨fd_joined, F_joined⟩ : ∃ fd, FunS K "joined" s_joined (He.ga K "joined") fd := c.t.d.def_ 13 (d := d_joined) rfl
  have m_joined : mg "joined" = some (.ref _) := He.glo_ok X G (c.t.d.fact 14 (f := .glo "joined") rfl)
  have n_joined := FunD.bindsN (ps := ["word", "ending"]) F_joined fun _ _ _ _ _ _ us hl => match us, hl with | [_, _], _ => rfl
  obtain ⟨fd_Shown_ended, F_Shown_ended⟩ : ∃ fd, FunM K "ended" "Shown.ended" s_Shown_ended (He.ma K (He.ga K "Shown") "ended") fd := c.t.d.def_ 14 (d := d_Shown_ended) rfl
  have n_Shown_ended := FunD.bindsN (ps := ["self", "ending"]) F_Shown_ended fun _ _ _ _ _ _ us hl => match us, hl with | [_, _], _ => rfl
  obtain ⟨fd_Shown_join, F_Shown_join⟩ : ∃ fd, FunM K "join" "Shown.join" s_Shown_join (He.ma K (He.ga K "Shown") "join") fd := c.t.d.def_ 15 (d := d_Shown_join) rfl
  have n_Shown_join := FunD.bindsN (ps := ["self", "word", "left", "right"]) F_Shown_join fun _ _ _ _ _ _ us hl => match us, hl with | [_, _, _, _], _ => rfl
  obtain ⟨fd_Shown_great_last, F_Shown_great_last⟩ : ∃ fd, FunM K "great_last" "Shown.great_last" s_Shown_great_last (He.ma K (He.ga K "Shown") "great_last") fd := c.t.d.def_ 16 (d := d_Shown_great_last) rfl
  have n_Shown_great_last := FunD.bindsN (ps := ["self"]) F_Shown_great_last fun _ _ _ _ _ _ us hl => match us, hl with | [_], _ => rfl
  obtain ⟨fd_Shown_do, F_Shown_do⟩ : ∃ fd, FunM K "do" "Shown.do" s_Shown_do (He.ma K (He.ga K "Shown") "do") fd := c.t.d.def_ 17 (d := d_Shown_do) rfl
  have n_Shown_do := FunD.bindsN (ps := ["self", "action"]) F_Shown_do fun _ _ _ _ _ _ us hl => match us, hl with | [_, _], _ => rfl
  obtain ⟨fd_shown, F_shown⟩ : ∃ fd, FunS K "shown" s_shown (He.ga K "shown") fd := c.t.d.def_ 18 (d := d_shown) rfl
  have m_shown : mg "shown" = some (.ref _) := He.glo_ok X G (c.t.d.fact 19 (f := .glo "shown") rfl)
  have n_shown := FunD.bindsN (ps := ["pieces"]) F_shown fun _ _ _ _ _ _ us hl => match us, hl with | [_], _ => rfl
  obtain ⟨fd_l_sized, F_l_sized⟩ : ∃ fd, FunS K "_law_sized" s_l_sized (He.ga K "_law_sized") fd := c.t.d.def_ 19 (d := d_l_sized) rfl
  have m_l_sized : mg "_law_sized" = some (.ref _) := He.glo_ok X G (c.t.d.fact 20 (f := .glo "_law_sized") rfl)
  have n_l_sized := FunD.bindsN (ps := ["_law_s", "_law_word_here"]) F_l_sized fun _ _ _ _ _ _ us hl => match us, hl with | [_, _], _ => rfl
  obtain ⟨fd_l_put, F_l_put⟩ : ∃ fd, FunS K "_law_put" s_l_put (He.ga K "_law_put") fd := c.t.d.def_ 20 (d := d_l_put) rfl
  have m_l_put : mg "_law_put" = some (.ref _) := He.glo_ok X G (c.t.d.fact 21 (f := .glo "_law_put") rfl)
  have n_l_put := FunD.bindsN (ps := ["_law_s", "_law_word_here", "_law_close"]) F_l_put fun _ _ _ _ _ _ us hl => match us, hl with | [_, _, _], _ => rfl
  obtain ⟨fd_l_small, F_l_small⟩ : ∃ fd, FunS K "_law_small" s_l_small (He.ga K "_law_small") fd := c.t.d.def_ 21 (d := d_l_small) rfl
  have m_l_small : mg "_law_small" = some (.ref _) := He.glo_ok X G (c.t.d.fact 22 (f := .glo "_law_small") rfl)
  have n_l_small := FunD.bindsN (ps := ["_law_sign"]) F_l_small fun _ _ _ _ _ _ us hl => match us, hl with | [_], _ => rfl
  obtain ⟨fd_l_cut, F_l_cut⟩ : ∃ fd, FunS K "_law_cut" s_l_cut (He.ga K "_law_cut") fd := c.t.d.def_ 22 (d := d_l_cut) rfl
  have m_l_cut : mg "_law_cut" = some (.ref _) := He.glo_ok X G (c.t.d.fact 23 (f := .glo "_law_cut") rfl)
  have n_l_cut := FunD.bindsN (ps := ["_law_text"]) F_l_cut fun _ _ _ _ _ _ us hl => match us, hl with | [_], _ => rfl
  obtain ⟨fd_l_joined, F_l_joined⟩ : ∃ fd, FunS K "_law_joined" s_l_joined (He.ga K "_law_joined") fd := c.t.d.def_ 23 (d := d_l_joined) rfl
  have m_l_joined : mg "_law_joined" = some (.ref _) := He.glo_ok X G (c.t.d.fact 24 (f := .glo "_law_joined") rfl)
  have n_l_joined := FunD.bindsN (ps := ["_law_word_here", "_law_ending_here"]) F_l_joined fun _ _ _ _ _ _ us hl => match us, hl with | [_, _], _ => rfl
  obtain ⟨fd_l_join, F_l_join⟩ : ∃ fd, FunS K "_law_join" s_l_join (He.ga K "_law_join") fd := c.t.d.def_ 24 (d := d_l_join) rfl
  have m_l_join : mg "_law_join" = some (.ref _) := He.glo_ok X G (c.t.d.fact 25 (f := .glo "_law_join") rfl)
  have n_l_join := FunD.bindsN (ps := ["_law_s", "_law_action_here"]) F_l_join fun _ _ _ _ _ _ us hl => match us, hl with | [_, _], _ => rfl
  obtain ⟨fd_l_do, F_l_do⟩ : ∃ fd, FunS K "_law_do" s_l_do (He.ga K "_law_do") fd := c.t.d.def_ 25 (d := d_l_do) rfl
  have m_l_do : mg "_law_do" = some (.ref _) := He.glo_ok X G (c.t.d.fact 26 (f := .glo "_law_do") rfl)
  have n_l_do := FunD.bindsN (ps := ["_law_s", "_law_action_here"]) F_l_do fun _ _ _ _ _ _ us hl => match us, hl with | [_, _], _ => rfl
  obtain ⟨fd_l_shown, F_l_shown⟩ : ∃ fd, FunS K "_law_shown" s_l_shown (He.ga K "_law_shown") fd := c.t.d.def_ 26 (d := d_l_shown) rfl
  have m_l_shown : mg "_law_shown" = some (.ref _) := He.glo_ok X G (c.t.d.fact 27 (f := .glo "_law_shown") rfl)
  have n_l_shown := FunD.bindsN (ps := ["_law_pieces"]) F_l_shown fun _ _ _ _ _ _ us hl => match us, hl with | [_], _ => rfl
  obtain ⟨fd_law, F_law⟩ : ∃ fd, FunS K "law" s_law (He.ga K "law") fd := c.t.d.def_ 27 (d := d_law) rfl
  have n_law := FunD.bindsA (ps := ["_law_script"]) F_law fun _ _ _ _ _ _ us hl => match us, hl with | [_], _ => rfl
  have b_int : mg "int" = none := He.free_ok X G (c.t.d.fact 29 (f := .free "int") rfl)
  have b_isinstance : mg "isinstance" = none := He.free_ok X G (c.t.d.fact 30 (f := .free "isinstance") rfl)
  have b_len : mg "len" = none := He.free_ok X G (c.t.d.fact 31 (f := .free "len") rfl)
  have b_list : mg "list" = none := He.free_ok X G (c.t.d.fact 32 (f := .free "list") rfl)
  have b_range : mg "range" = none := He.free_ok X G (c.t.d.fact 33 (f := .free "range") rfl)
  have b_str : mg "str" = none := He.free_ok X G (c.t.d.fact 34 (f := .free "str") rfl)
  have b_tuple : mg "tuple" = none := He.free_ok X G (c.t.d.fact 35 (f := .free "tuple") rfl)
  have g_LETTERS_endings : ∃ u, mg "LETTERS_endings" = some u ∧ RelV (.str (S [97, 98, 99, 100, 101, 102, 103, 104, 105, 106, 107, 108, 109, 110, 111, 112, 113, 114, 115, 116, 117, 118, 119, 120, 121, 122])) u := by
    obtain ⟨t, e⟩ := He.str_ok X G (c.t.d.fact 41 (f := .str "LETTERS_endings" (S [97, 98, 99, 100, 101, 102, 103, 104, 105, 106, 107, 108, 109, 110, 111, 112, 113, 114, 115, 116, 117, 118, 119, 120, 121, 122])) rfl)
    exact ⟨_, e, _, rfl⟩
  have g_LETTERS_showing : ∃ u, mg "LETTERS_showing" = some u ∧ RelV (.str (S [97, 98, 99, 100, 101, 102, 103, 104, 105, 106, 107, 108, 109, 110, 111, 112, 113, 114, 115, 116, 117, 118, 119, 120, 121, 122])) u := by
    obtain ⟨t, e⟩ := He.str_ok X G (c.t.d.fact 42 (f := .str "LETTERS_showing" (S [97, 98, 99, 100, 101, 102, 103, 104, 105, 106, 107, 108, 109, 110, 111, 112, 113, 114, 115, 116, 117, 118, 119, 120, 121, 122])) rfl)
    exact ⟨_, e, _, rfl⟩
  have g_VOWELS : ∃ u, mg "VOWELS" = some u ∧ RelV (.str (S [97, 101, 105, 111, 117])) u := by
    obtain ⟨t, e⟩ := He.str_ok X G (c.t.d.fact 43 (f := .str "VOWELS" (S [97, 101, 105, 111, 117])) rfl)
    exact ⟨_, e, _, rfl⟩
  refine ⟨fd_law, fun s v => n_law s [v] rfl, fun base _ _ => ?_⟩
  have c_l_begun : Cal P w K mg base CX0 1 "_law_begun" (sp_begun K) := cal_of F_l_begun (ok_begun F_l_begun (b_int := b_int) (b_len := b_len) (b_list := b_list)) m_l_begun n_l_begun
  have c_l_take : Cal P w K mg base CX0 1 "_law_take" sp_take := cal_of F_l_take (ok_take F_l_take ) m_l_take n_l_take
  have c_l_word : Cal P w K mg base CX0 2 "_law_word" sp_word := cal_of F_l_word (ok_word F_l_word (b_len := b_len) (b_range := b_range) (c_l_take := c_l_take)) m_l_word n_l_word
  have c_l_ending : Cal P w K mg base CX0 3 "_law_ending" sp_ending := cal_of F_l_ending (ok_ending F_l_ending (b_int := b_int) (c_l_take := c_l_take) (c_l_word := c_l_word)) m_l_ending n_l_ending
  have c_l_action : Cal P w K mg base CX0 4 "_law_action" (sp_action K) := cal_of F_l_action (ok_action F_l_action (c_l_take := c_l_take) (c_l_word := c_l_word) (c_l_ending := c_l_ending)) m_l_action n_l_action
  have c_l_entry : Cal P w K mg base CX0 5 "_law_entry" (sp_entry K) := cal_of F_l_entry (ok_entry F_l_entry (b_range := b_range) (b_tuple := b_tuple) (c_l_take := c_l_take) (c_l_action := c_l_action)) m_l_entry n_l_entry
  have c_l_stroke : Cal P w K mg base CX0 2 "_law_stroke" sp_stroke := cal_of F_l_stroke (ok_stroke F_l_stroke (b_range := b_range) (c_l_take := c_l_take)) m_l_stroke n_l_stroke
  have mk_Shown : Mak P w K mg base CX0 1 "Shown" (He.ga K "Shown") (sp_Shown_init (He.ga K "Shown")) := ⟨_, _, _, He.mkr_ok (c.t.d.fact 8 (f := .mkr "Shown") rfl), ok_Shown_init F_Shown_init (k_Shown := k_Shown), He.glo_ok X G (c.t.d.fact 7 (f := .glo "Shown") rfl), n_Shown_init⟩
  have c_Shown_sized : Met P w K mg base CX0 1 (He.ga K "Shown") "sized" (sp_sized (He.ga K "Shown")) := ⟨_, _, _, k_Shown.cls, He.meth_ok (c.t.d.fact 9 (f := .meth "Shown" "sized") rfl), ok_Shown_sized F_Shown_sized (k_Shown := k_Shown), n_Shown_sized⟩
  have c_Shown_put : Met P w K mg base CX0 2 (He.ga K "Shown") "put" (sp_put (He.ga K "Shown")) := ⟨_, _, _, k_Shown.cls, He.meth_ok (c.t.d.fact 10 (f := .meth "Shown" "put") rfl), ok_Shown_put F_Shown_put (k_Shown := k_Shown) (c_Shown_sized := c_Shown_sized), n_Shown_put⟩
  have c_Shown_last_word : Met P w K mg base CX0 1 (He.ga K "Shown") "last_word" (sp_last_word (He.ga K "Shown")) := ⟨_, _, _, k_Shown.cls, He.meth_ok (c.t.d.fact 11 (f := .meth "Shown" "last_word") rfl), ok_Shown_last_word F_Shown_last_word (k_Shown := k_Shown) (b_len := b_len) (g_LETTERS_showing := g_LETTERS_showing), n_Shown_last_word⟩
  have c_is_consonant : Cal P w K mg base CX0 1 "is_consonant" sp_consonant := cal_of F_is_consonant (ok_consonant F_is_consonant (g_LETTERS_endings := g_LETTERS_endings) (g_VOWELS := g_VOWELS)) m_is_consonant n_is_consonant
  have c_is_short : Cal P w K mg base CX0 2 "is_short" sp_short := cal_of F_is_short (ok_short F_is_short (b_len := b_len) (c_is_consonant := c_is_consonant) (g_VOWELS := g_VOWELS)) m_is_short n_is_short
  have c_joined : Cal P w K mg base CX0 3 "joined" sp_joined := cal_of F_joined (ok_joined F_joined (c_is_consonant := c_is_consonant) (c_is_short := c_is_short) (g_LETTERS_endings := g_LETTERS_endings) (g_VOWELS := g_VOWELS)) m_joined n_joined
  have c_Shown_ended : Met P w K mg base CX0 4 (He.ga K "Shown") "ended" (sp_ended (He.ga K "Shown")) := ⟨_, _, _, k_Shown.cls, He.meth_ok (c.t.d.fact 15 (f := .meth "Shown" "ended") rfl), ok_Shown_ended F_Shown_ended (k_Shown := k_Shown) (b_len := b_len) (c_Shown_last_word := c_Shown_last_word) (c_joined := c_joined) (g_LETTERS_showing := g_LETTERS_showing), n_Shown_ended⟩
  have c_Shown_join : Met P w K mg base CX0 5 (He.ga K "Shown") "join" (sp_join (He.ga K "Shown")) := ⟨_, _, _, k_Shown.cls, He.meth_ok (c.t.d.fact 16 (f := .meth "Shown" "join") rfl), ok_Shown_join F_Shown_join (k_Shown := k_Shown) (c_Shown_ended := c_Shown_ended) (c_Shown_put := c_Shown_put), n_Shown_join⟩
  have c_Shown_great_last : Met P w K mg base CX0 2 (He.ga K "Shown") "great_last" (sp_great_last (He.ga K "Shown")) := ⟨_, _, _, k_Shown.cls, He.meth_ok (c.t.d.fact 17 (f := .meth "Shown" "great_last") rfl), ok_Shown_great_last F_Shown_great_last (k_Shown := k_Shown) (b_len := b_len) (c_Shown_last_word := c_Shown_last_word), n_Shown_great_last⟩
  have c_Shown_do : Met P w K mg base CX0 6 (He.ga K "Shown") "do" (sp_do K (He.ga K "Shown")) := ⟨_, _, _, k_Shown.cls, He.meth_ok (c.t.d.fact 18 (f := .meth "Shown" "do") rfl), ok_Shown_do F_Shown_do (k_Shown := k_Shown) (c_Shown_put := c_Shown_put) (c_Shown_join := c_Shown_join) (c_Shown_great_last := c_Shown_great_last), n_Shown_do⟩
  have c_shown : Cal P w K mg base CX0 7 "shown" (sp_shown K) := cal_of F_shown (ok_shown F_shown (k_Shown := k_Shown) (mk_Shown := mk_Shown) (c_Shown_put := c_Shown_put) (c_Shown_do := c_Shown_do)) m_shown n_shown
  have c_l_sized : Cal P w K mg base CX0 1 "_law_sized" sp_lsized := cal_of F_l_sized (ok_lsized F_l_sized ) m_l_sized n_l_sized
  have c_l_put : Cal P w K mg base CX0 2 "_law_put" sp_lput := cal_of F_l_put (ok_lput F_l_put (c_l_sized := c_l_sized)) m_l_put n_l_put
  have c_l_small : Cal P w K mg base CX0 1 "_law_small" sp_small := cal_of F_l_small (ok_small F_l_small ) m_l_small n_l_small
  have c_l_cut : Cal P w K mg base CX0 2 "_law_cut" sp_lcut := cal_of F_l_cut (ok_lcut F_l_cut (b_len := b_len) (c_l_small := c_l_small)) m_l_cut n_l_cut
  have c_l_joined : Cal P w K mg base CX0 2 "_law_joined" sp_ljoined := cal_of F_l_joined (ok_ljoined F_l_joined (b_int := b_int) (b_len := b_len) (b_range := b_range) (c_l_small := c_l_small)) m_l_joined n_l_joined
  have c_l_join : Cal P w K mg base CX0 4 "_law_join" (sp_ljoin K) := cal_of F_l_join (ok_ljoin F_l_join (b_len := b_len) (c_l_cut := c_l_cut) (c_l_small := c_l_small) (c_l_joined := c_l_joined) (c_l_put := c_l_put)) m_l_join n_l_join
  have c_l_do : Cal P w K mg base CX0 5 "_law_do" (sp_ldo K) := cal_of F_l_do (ok_ldo F_l_do (b_len := b_len) (c_l_put := c_l_put) (c_l_join := c_l_join) (c_l_cut := c_l_cut)) m_l_do n_l_do
  have c_l_shown : Cal P w K mg base CX0 6 "_law_shown" (sp_lshown K) := cal_of F_l_shown (ok_lshown F_l_shown (c_l_put := c_l_put) (c_l_do := c_l_do)) m_l_shown n_l_shown
  exact FnOk.mono (ok_law F_law (b_isinstance := b_isinstance) (b_list := b_list) (b_range := b_range) (b_str := b_str) (c_l_begun := c_l_begun) (c_l_take := c_l_take) (c_l_entry := c_l_entry) (c_l_stroke := c_l_stroke) (c_shown := c_shown) (c_l_shown := c_l_shown)) (by decide)
end Ch
open PySem PySem.W PySem.Calls PyProof.Rows
set_option maxHeartbeats 0 in
theorem PySem.Challenge.cw_chords_k09_shown_holds : PySem.Challenge.rw_chords_k09_shown.Holds := by
  w_on; o_law
  refine HandSHeadRun.head_any (r := OpenLaw.row PySem.Challenge.rw_chords_k09_shown) (q := view (OpenLaw.row PySem.Challenge.rw_chords_k09_shown).prog [28]) (H := Ch.hk) (ob := Ch.ob) (M := 4000) (loose := ["is_consonant", "is_short", "joined", "Shown", "shown", "_law_begun", "_law_take", "_law_stroke", "_law_pool", "_law_row", "_law_word", "_law_ending", "_law_action", "_law_entry", "_law_small", "_law_joined", "_law_sized", "_law_put", "_law_cut", "_law_join", "_law_do", "_law_shown", "VOWELS", "LETTERS_endings", "LETTERS_showing"]) (d := HandSHeadRun.topDef (OpenLaw.row PySem.Challenge.rw_chords_k09_shown).prog 28) (kwd := []) Ch.ob_eq
    (by kernel_rfl) (fun s => by kernel_rfl) Ch.run (by kernel_rfl) (by kernel_rfl) (by kernel_rfl) (by rfl) (by first | assumption | decide +kernel) (by decide +kernel) ⟨rfl, rfl, rfl, rfl, rfl, by decide +kernel⟩ ?hw ?hc
  case hw => w_witness2
  case hc =>
    refine L2.walk_ofE (l := PySem.Challenge.rw_chords_k09_shown) (n := 63) (k := 20) (x := "_law_script") (CX := L2.CX0) rfl (by decide) (by kernel_rfl) ⟨rfl, by decide, by decide⟩ ?F (fun _ _ _ _ z => z)
    intro w mg fa h Y G hmg0
    obtain ⟨K, KX, c⟩ := Y
    have hmg : mg ("law" : PySem.Str) = some (.ref fa) := by
      have e : (HandSHeadRun.topDef (OpenLaw.row PySem.Challenge.rw_chords_k09_shown).prog 28).name = ("law" : PySem.Str) := by kernel_rfl
      rw [← e]
      exact hmg0
    obtain ⟨fd, hb, hF⟩ := Ch.facts (P := (PySem.Challenge.rw_chords_k09_shown).prog) (w := w) KX G hmg c
    exact ⟨K, fd, Ch.sp_law K, KX, hb, fun H a ns hl _ hS => ⟨a, ns, rfl, hS, hl, fun _ => rfl⟩, hF⟩
#print axioms PySem.Challenge.cw_chords_k09_shown_holds
