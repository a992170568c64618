import PyProof.Rows.All
import Wide.All
import OpenK.AllK
import Wide.FinOn
import KE.KStateDown
import HandS.ForMost
import HandS.ForSpec
import HandS.Codes
import HandS.IsInst
import HandS.Defaults
import HandS.TupAny
import HandS.Deep
import HandS.Conv
import HandS.TupLen
import HandS.Head0
import HandS.Head1
import HandS.Head2
import HandS.HeadEnd
import HandS.HeadHook1
import HandS.HeadHook2
import HandS.HeadHook3
import HandS.HeadHook4
import HandS.ExcOwn
import HandS.WordsExc
import HandS.ExcIs
import HandS.SetKeys
import HandS.DictTup
import KE.KDictWalk
import KE.KAsSuite
import KE.GoesComp
import KE.GoesRaise
import PySem.Challenge.RW_chords_k04_whole_entries_read
set_option Elab.async false
set_option linter.all false
set_option maxRecDepth 100000
set_option maxHeartbeats 2000000
namespace Ch
open PySem PySem.Spec PyProof.Rows L2
def top (i : Nat) : Stmt := PySem.Challenge.pw_chords_k04_whole_entries_read.main.body.getD i (.Pass ⟨0, 0, 0, 0⟩)
/-! ### texts as lists of signs -/
abbrev S := SX.S
abbrev Tx := List Nat
theorem S_inj {a b : Tx} (h : S a = S b) : a = b := SX.S_inj h
theorem S_len (a : Tx) : (S a).length = a.length := SX.S_len a
theorem S_cat (a b : Tx) : S a ++ S b = S (a ++ b) := SX.S_cat a b
theorem str_inj {a b : Tx} : V.str (S a) = V.str (S b) ↔ a = b := ⟨fun h => S_inj (V.str.inj h), fun h => by rw [h]⟩
theorem S_toList (a : Tx) : (S a).cps.toList = a := rfl
theorem of_S (s : String) : Str.ofString s = S (s.toList.map Char.toNat) := Str.ofString_eq_toList s
theorem S_eq {a b : Tx} : S a = S b ↔ a = b := ⟨S_inj, fun h => by rw [h]⟩
theorem S_ne {a b : Tx} : (S a ≠ S b) ↔ a ≠ b := not_congr S_eq
theorem sg_eq (c : Nat) : ({ cps := #[c] } : Str) = S [c] := rfl
theorem lit_99_104_111_114_100_115_46_101_114_114_111_114_115 : Str.ofString "chords.errors" = S [99, 104, 111, 114, 100, 115, 46, 101, 114, 114, 111, 114, 115] := by decide +kernel
theorem lit_99_104_111_114_100_115_46_101_110_116_114_105_101_115 : Str.ofString "chords.entries" = S [99, 104, 111, 114, 100, 115, 46, 101, 110, 116, 114, 105, 101, 115] := by decide +kernel
theorem lit_97_98_99_100_101_102_103_104_105_106_107_108_109_110_111_112_113_114_115_116_117_118_119_120_121_122_48_49_50_51_52_53_54_55_56_57_39_45 : Str.ofString "abcdefghijklmnopqrstuvwxyz0123456789'-" = S [97, 98, 99, 100, 101, 102, 103, 104, 105, 106, 107, 108, 109, 110, 111, 112, 113, 114, 115, 116, 117, 118, 119, 120, 121, 122, 48, 49, 50, 51, 52, 53, 54, 55, 56, 57, 39, 45] := by decide +kernel
theorem lit_46_63_33_44_58_59 : Str.ofString ".?!,:;" = S [46, 63, 33, 44, 58, 59] := by decide +kernel
theorem lit_108_97_119_95_99_104_111_114_100_115_95_107_48_52_95_119_104_111_108_101_95_101_110_116_114_105_101_115_95_114_101_97_100 : Str.ofString "law_chords_k04_whole_entries_read" = S [108, 97, 119, 95, 99, 104, 111, 114, 100, 115, 95, 107, 48, 52, 95, 119, 104, 111, 108, 101, 95, 101, 110, 116, 114, 105, 101, 115, 95, 114, 101, 97, 100] := by decide +kernel
theorem lit_123_45_124_125 : Str.ofString "{-|}" = S [123, 45, 124, 125] := by decide +kernel
theorem lit_123_60_125 : Str.ofString "{<}" = S [123, 60, 125] := by decide +kernel
theorem lit_123_42_45_124_125 : Str.ofString "{*-|}" = S [123, 42, 45, 124, 125] := by decide +kernel
theorem lit_123_98_97_99_107_125 : Str.ofString "{back}" = S [123, 98, 97, 99, 107, 125] := by decide +kernel
theorem lit_123_97_103_97_105_110_125 : Str.ofString "{again}" = S [123, 97, 103, 97, 105, 110, 125] := by decide +kernel
theorem lit_103_114_101_97_116 : Str.ofString "great" = S [103, 114, 101, 97, 116] := by decide +kernel
theorem lit_97_108_108 : Str.ofString "all" = S [97, 108, 108] := by decide +kernel
theorem lit_108_97_115_116 : Str.ofString "last" = S [108, 97, 115, 116] := by decide +kernel
theorem lit_98_97_99_107 : Str.ofString "back" = S [98, 97, 99, 107] := by decide +kernel
theorem lit_97_103_97_105_110 : Str.ofString "again" = S [97, 103, 97, 105, 110] := by decide +kernel
theorem lit_123 : Str.ofString "{" = S [123] := by decide +kernel
theorem lit_94 : Str.ofString "^" = S [94] := by decide +kernel
theorem lit_38 : Str.ofString "&" = S [38] := by decide +kernel
theorem lit_106_111_105_110 : Str.ofString "join" = S [106, 111, 105, 110] := by decide +kernel
theorem lit_115 : Str.ofString "s" = S [115] := by decide +kernel
theorem lit_105_110_103 : Str.ofString "ing" = S [105, 110, 103] := by decide +kernel
theorem lit_101_100 : Str.ofString "ed" = S [101, 100] := by decide +kernel
theorem lit_108_121 : Str.ofString "ly" = S [108, 121] := by decide +kernel
theorem lit_101_114 : Str.ofString "er" = S [101, 114] := by decide +kernel
theorem lit_101_115_116 : Str.ofString "est" = S [101, 115, 116] := by decide +kernel
theorem lit_97_98_108_101 : Str.ofString "able" = S [97, 98, 108, 101] := by decide +kernel
theorem lit_121 : Str.ofString "y" = S [121] := by decide +kernel
theorem lit_110_101_115_115 : Str.ofString "ness" = S [110, 101, 115, 115] := by decide +kernel
theorem lit_45_108_105_107_101 : Str.ofString "-like" = S [45, 108, 105, 107, 101] := by decide +kernel
theorem lit_39_115 : Str.ofString "'s" = S [39, 115] := by decide +kernel
theorem lit_105_115_104 : Str.ofString "ish" = S [105, 115, 104] := by decide +kernel
theorem lit_119_111_114_100 : Str.ofString "word" = S [119, 111, 114, 100] := by decide +kernel
theorem lit_125 : Str.ofString "}" = S [125] := by decide +kernel
theorem lit_115_116_111_112 : Str.ofString "stop" = S [115, 116, 111, 112] := by decide +kernel
theorem lit_110_111_32_119_111_114_100_44_32_111_114_32_116_111_111_32_108_111_110_103 : Str.ofString "no word, or too long" = S [110, 111, 32, 119, 111, 114, 100, 44, 32, 111, 114, 32, 116, 111, 111, 32, 108, 111, 110, 103] := by decide +kernel
theorem lit_110_111_32_101_110_100 : Str.ofString "no end" = S [110, 111, 32, 101, 110, 100] := by decide +kernel
theorem lit_ : Str.ofString "" = S [] := by decide +kernel
theorem lit_103_108_117_101 : Str.ofString "glue" = S [103, 108, 117, 101] := by decide +kernel
theorem lit_110_111_116_104_105_110_103_32_105_115_32_106_111_105_110_101_100 : Str.ofString "nothing is joined" = S [110, 111, 116, 104, 105, 110, 103, 32, 105, 115, 32, 106, 111, 105, 110, 101, 100] := by decide +kernel
theorem lit_116_111_111_32_109_97_110_121_32_97_99_116_105_111_110_115 : Str.ofString "too many actions" = S [116, 111, 111, 32, 109, 97, 110, 121, 32, 97, 99, 116, 105, 111, 110, 115] := by decide +kernel
theorem lit_116_104_105_115_32_115_116_97_110_100_115_32_97_108_111_110_101 : Str.ofString "this stands alone" = S [116, 104, 105, 115, 32, 115, 116, 97, 110, 100, 115, 32, 97, 108, 111, 110, 101] := by decide +kernel
theorem lit_97_101_105_111_117_115_116_120_121_122 : Str.ofString "aeioustxyz" = S [97, 101, 105, 111, 117, 115, 116, 120, 121, 122] := by decide +kernel
theorem lit_97_98_99_100_101_102_103_104_105_106_107_108_109_110_111_112_113_114_115_116_117_118_119_120_121_122 : Str.ofString "abcdefghijklmnopqrstuvwxyz" = S [97, 98, 99, 100, 101, 102, 103, 104, 105, 106, 107, 108, 109, 110, 111, 112, 113, 114, 115, 116, 117, 118, 119, 120, 121, 122] := by decide +kernel
theorem lit_97_101_104_110_114_115_119_121_48_49_50_51_52_53_54_55_56_57_39_45 : Str.ofString "aehnrswy0123456789'-" = S [97, 101, 104, 110, 114, 115, 119, 121, 48, 49, 50, 51, 52, 53, 54, 55, 56, 57, 39, 45] := by decide +kernel
theorem lit_32 : Str.ofString " " = S [32] := by decide +kernel
theorem lit_97_122_48_39_45_94_38_123_125_124_60_42_46_63_44_59_32_65_98 : Str.ofString "az0'-^&{}|<*.?,; Ab" = S [97, 122, 48, 39, 45, 94, 38, 123, 125, 124, 60, 42, 46, 63, 44, 59, 32, 65, 98] := by decide +kernel
theorem lit_110_111_32_115_105_103_110_32_111_102_32_97_32_119_111_114_100 : Str.ofString "no sign of a word" = S [110, 111, 32, 115, 105, 103, 110, 32, 111, 102, 32, 97, 32, 119, 111, 114, 100] := by decide +kernel
theorem lit_97_94_38_123_125_45_124_60_42_46_98_32_97_99_107_39 : Str.ofString "a^&{}-|<*.b ack'" = S [97, 94, 38, 123, 125, 45, 124, 60, 42, 46, 98, 32, 97, 99, 107, 39] := by decide +kernel
theorem lit_46 : Str.ofString "." = S [46] := by decide +kernel
theorem lit_63 : Str.ofString "?" = S [63] := by decide +kernel
theorem lit_33 : Str.ofString "!" = S [33] := by decide +kernel
theorem lit_44 : Str.ofString "," = S [44] := by decide +kernel
theorem lit_58 : Str.ofString ":" = S [58] := by decide +kernel
theorem lit_59 : Str.ofString ";" = S [59] := by decide +kernel
theorem size_le {n : Nat} (h : n ≤ 1000000) : n ≤ sizeLine := Nat.le_trans h (by decide)
theorem size_lt {n : Nat} (h : n < 1000000) : n < sizeLine := Nat.lt_of_lt_of_le h (by decide)
theorem gCons_eq {g : TG} {t : TGs} {x : V} {r : List V} {σ : L2.St} {H : Hp} {Q : L2.St → Hp → Prop} : gCons g t (x :: r) σ H Q = g x σ H fun σ1 H1 => t r σ1 H1 Q := by
  unfold gCons
  apply propext
  constructor
  · rintro ⟨v, r', e, q⟩
    cases e
    exact q
  · exact fun q => ⟨_, _, rfl, q⟩
theorem gNil_eq {σ : L2.St} {H : Hp} {Q : L2.St → Hp → Prop} : gNil [] σ H Q = Q σ H := by
  unfold gNil
  exact propext ⟨fun q => q.2, fun q => ⟨rfl, q⟩⟩
theorem tCallS_eq {sp : Sp} {E : L2.St → XK} {t : TA} {σ : L2.St} {H : Hp} {Q : VK} : tCallS sp E t σ H Q = t σ H fun vs H1 => sp vs H1 Q (E σ) := rfl
/-! ### heaps -/
theorem same_new {H : Hp} {p : Addr} {o : HO} (h : H p = none) : Same H (upd H p o) := fun b x e => by
  rw [upd_ne (ne_of_none e h)]
  exact e
theorem same_mut {H H' : Hp} {p : Addr} {o : HO} (e : Same H H') (h : H p = none) : Same H (upd H' p o) := fun a u ha => by
  rw [upd_ne (ne_of_none ha h)]
  exact e a u ha
theorem sq_of {K : PySem.W.Frag} {H : Hp} {a : Addr} {xs : List V} (h : H a = some (.lst xs)) : SqL K H a xs := .inl (.inl h)
theorem st_of {K : PySem.W.Frag} {H : Hp} {a : Addr} {xs : List V} (h : H a = some (.tup xs)) : SqT K H a xs := .inl (.inl h)
theorem same_t {K : PySem.W.Frag} {H H' : Hp} {a : Addr} {xs : List V} (e : Same H H') (h : SqT K H a xs) : SqT K H' a xs := by
  rcases h with (h | ⟨o, h⟩) | h
  · exact .inl (.inl (e _ _ h))
  · exact .inl (.inr ⟨o, e _ _ h⟩)
  · exact .inr h
theorem same_l {K : PySem.W.Frag} {H H' : Hp} {a : Addr} {xs : List V} (e : Same H H') (h : SqL K H a xs) : SqL K H' a xs := e.seq h
theorem Dp.ext {K : PySem.W.Frag} {H H' : Hp} (e : Same H H') {v : V} {d : PyData} (h : Dp K H v d) : Dp K H' v d := by
  refine Dp.rec (motive_1 := fun v d _ => Dp K H' v d) (motive_2 := fun vs ds _ => DpAll K H' vs ds) ?_ ?_ ?_ ?_ ?_ ?_ ?_ ?_ h
  · exact .non
  · exact .bl
  · exact .int
  · exact .str
  · intro a xs ds hs _ ih
    exact .lst (same_l e hs) ih
  · intro a xs ds hs _ ih
    exact .tup (same_t e hs) ih
  · exact .nil
  · intro v vs d ds _ _ h1 h2
    exact .cons h1 h2
theorem DpAll.ext {K : PySem.W.Frag} {H H' : Hp} (e : Same H H') : ∀ {vs : List V} {ds : List PyData}, DpAll K H vs ds → DpAll K H' vs ds
  | _, _, .nil => .nil
  | _, _, .cons h t => .cons (Dp.ext e h) (DpAll.ext e t)
theorem DpAll.len {K : PySem.W.Frag} {H : Hp} : ∀ {vs : List V} {ds : List PyData}, DpAll K H vs ds → vs.length = ds.length
  | _, _, .nil => rfl
  | _, _, .cons _ t => congrArg (· + 1) (DpAll.len t)
theorem DpAll.get {K : PySem.W.Frag} {H : Hp} : ∀ {vs : List V} {ds : List PyData} {i : Nat} {d : PyData}, DpAll K H vs ds → ds[i]? = some d → ∃ v, vs[i]? = some v ∧ Dp K H v d
  | _, _, _, _, .nil, h => by simp at h
  | _, _, 0, _, .cons h _, e => by
    simp at e
    subst e
    exact ⟨_, rfl, h⟩
  | _, _, i + 1, _, .cons _ t, e => by
    obtain ⟨v, h1, h2⟩ := DpAll.get (i := i) t (by simpa using e)
    exact ⟨v, by simpa using h1, h2⟩
theorem DpAll.app {K : PySem.W.Frag} {H : Hp} : ∀ {vs ws : List V} {ds es : List PyData}, DpAll K H vs ds → DpAll K H ws es → DpAll K H (vs ++ ws) (ds ++ es)
  | _, _, _, _, .nil, h => h
  | _, _, _, _, .cons a t, h => .cons a (DpAll.app t h)
theorem dp_int {K : PySem.W.Frag} {H : Hp} {v : V} {i : Int} (h : Dp K H v (.int i)) : v = .int i := by cases h; rfl
theorem dp_str {K : PySem.W.Frag} {H : Hp} {v : V} {x : Str} (h : Dp K H v (.str x)) : v = .str x := by cases h; rfl
theorem dp_bl {K : PySem.W.Frag} {H : Hp} {v : V} {b : Bool} (h : Dp K H v (.bool b)) : v = .bl b := by cases h; rfl
theorem dp_non {K : PySem.W.Frag} {H : Hp} {v : V} (h : Dp K H v .none) : v = .non := by cases h; rfl
theorem dp_tup {K : PySem.W.Frag} {H : Hp} {v : V} {ds : List PyData} (h : Dp K H v (.tuple ds)) : ∃ a xs, v = .ref a ∧ SqT K H a xs ∧ DpAll K H xs ds := by
  cases h with
  | tup h1 h2 => exact ⟨_, _, rfl, h1, h2⟩
theorem dp_lst {K : PySem.W.Frag} {H : Hp} {v : V} {ds : List PyData} (h : Dp K H v (.list ds)) : ∃ a xs, v = .ref a ∧ SqL K H a xs ∧ DpAll K H xs ds := by
  cases h with
  | lst h1 h2 => exact ⟨_, _, rfl, h1, h2⟩
theorem dp_ints {K : PySem.W.Frag} {H : Hp} : ∀ ns : List Int, DpAll K H (ns.map V.int) (ns.map PyData.int)
  | [] => .nil
  | n :: r => .cons (.int n) (dp_ints r)
theorem dp_strs {K : PySem.W.Frag} {H : Hp} : ∀ ns : List Str, DpAll K H (ns.map V.str) (ns.map PyData.str)
  | [] => .nil
  | n :: r => .cons (.str n) (dp_strs r)
theorem shaped_ints (ns : List Int) : SeqAt.shaped (.list (ns.map PyData.int)) = true := by
  have h1 : ∀ ns : List Int, PyData.canLayAll0 (ns.map PyData.int) = true := fun ns => by
    induction ns with
    | nil => rfl
    | cons n r ih => simp only [List.map_cons, PyData.canLayAll0, PyData.canLay0, ih, Bool.and_true]
  have h2 : ∀ ns : List Int, PyData.depthAll (ns.map PyData.int) = 0 := fun ns => by
    induction ns with
    | nil => rfl
    | cons n r ih => simp only [List.map_cons, PyData.depthAll, PyData.depth, ih, Nat.max_self]
  simp only [SeqAt.shaped, PyData.canLay0, h1, PyData.depth, h2, Bool.true_and, decide_eq_true_eq]
  decide
theorem eqv_nil (ds : List PyData) : PyData.eqv (.list ds) (.list []) = ds.isEmpty := by
  cases ds with
  | nil => simp only [PyData.eqv, PyData.eqvAll, List.isEmpty_nil]
  | cons d r => simp only [PyData.eqv, PyData.eqvAll, List.isEmpty_cons]
/-- the tuples stay -/
def KT (G G' : Hp) : Prop := ∀ a xs, Rd G a (.tup xs) → Rd G' a (.tup xs)
theorem KT.of {G G' : Hp} (e : Same G G') : KT G G' := fun a xs h => by
  rcases h with h | ⟨o, h⟩
  · exact .inl (e _ _ h)
  · exact .inr ⟨o, e _ _ h⟩
theorem KT.refl (G : Hp) : KT G G := fun _ _ h => h
theorem KT.trans {G G1 G2 : Hp} (a : KT G G1) (b : KT G1 G2) : KT G G2 := fun p xs h => b p xs (a p xs h)
theorem KT.put {G : Hp} {p : Addr} {o o' : HO} (h : G p = some o) (h1 : ∀ xs, o ≠ .tup xs) (h2 : ∀ u xs, o ≠ .frz u (.tup xs)) : KT G (upd G p o') := fun a xs q => by
  rcases q with q | ⟨u, q⟩
  · exact .inl (by rw [upd_ne (fun e => h1 xs (by rw [e, h] at q; exact Option.some.inj q))]; exact q)
  · exact .inr ⟨u, by rw [upd_ne (fun e => h2 u xs (by rw [e, h] at q; exact Option.some.inj q))]; exact q⟩
theorem KT.putL {G : Hp} {p : Addr} {xs : List V} {o' : HO} (h : G p = some (.lst xs)) : KT G (upd G p o') := KT.put h (fun _ q => by cases q) fun _ _ q => by cases q
theorem KT.sq {K : PySem.W.Frag} {G G' : Hp} {a : Addr} {xs : List V} (e : KT G G') (h : SqT K G a xs) : SqT K G' a xs := by
  rcases h with h | h
  · exact .inl (e _ _ h)
  · exact .inr h
mutual
/-- data without lists -/
def noL : PyData → Bool
  | .none | .bool _ | .int _ | .str _ => true
  | .tuple ds => noLs ds
  | .list _ | .dict _ => false
def noLs : List PyData → Bool
  | [] => true
  | d :: r => noL d && noLs r
end
theorem Dp.kt {K : PySem.W.Frag} {H H' : Hp} (e : KT H H') {v : V} {d : PyData} (n : noL d = true) (h : Dp K H v d) : Dp K H' v d := by
  refine Dp.rec (motive_1 := fun v d _ => noL d = true → Dp K H' v d) (motive_2 := fun vs ds _ => noLs ds = true → DpAll K H' vs ds) ?_ ?_ ?_ ?_ ?_ ?_ ?_ ?_ h n
  · exact fun _ => .non
  · exact fun b _ => .bl b
  · exact fun i _ => .int i
  · exact fun x _ => .str x
  · intro a xs ds hs _ ih n
    simp only [noL, Bool.false_eq_true] at n
  · intro a xs ds hs _ ih n
    simp only [noL] at n
    exact .tup (e.sq hs) (ih n)
  · exact fun _ => .nil
  · intro v vs d ds _ _ h1 h2 n
    simp only [noLs, Bool.and_eq_true] at n
    exact .cons (h1 n.1) (h2 n.2)
theorem DpAll.kt {K : PySem.W.Frag} {H H' : Hp} (e : KT H H') : ∀ {vs : List V} {ds : List PyData}, noLs ds = true → DpAll K H vs ds → DpAll K H' vs ds
  | _, _, _, .nil => .nil
  | _, _, n, .cons h t => by
    simp only [noLs, Bool.and_eq_true] at n
    exact .cons (Dp.kt e n.1 h) (DpAll.kt e n.2 t)
/-- data that == and the laws' comparison read: no dict, less than so deep, texts of plain signs -/
def okD : Nat → PyData → Prop
  | 0, _ => False
  | _ + 1, .none => True
  | _ + 1, .bool _ => True
  | _ + 1, .int _ => True
  | _ + 1, .str x => PyData.strOk x = true
  | n + 1, .list ds => ds.length ≤ 100000 ∧ ∀ d ∈ ds, okD n d
  | n + 1, .tuple ds => ds.length ≤ 100000 ∧ ∀ d ∈ ds, okD n d
  | _ + 1, .dict _ => False
theorem okD.mono : ∀ {n : Nat} {d : PyData}, okD n d → okD (n + 1) d
  | 0, _, h => h.elim
  | _ + 1, .none, _ => trivial
  | _ + 1, .bool _, _ => trivial
  | _ + 1, .int _, _ => trivial
  | _ + 1, .str _, h => h
  | _ + 1, .list _, h => ⟨h.1, fun d hd => okD.mono (h.2 d hd)⟩
  | _ + 1, .tuple _, h => ⟨h.1, fun d hd => okD.mono (h.2 d hd)⟩
  | _ + 1, .dict _, h => h.elim
theorem okD.le {n m : Nat} {d : PyData} (h : okD n d) (l : n ≤ m) : okD m d := by
  induction l with
  | refl => exact h
  | step _ ih => exact ih.mono
theorem lay_all {p : PyData → Bool} : ∀ ds : List PyData, (∀ d ∈ ds, PyData.canLay0 d = true) → PyData.canLayAll0 ds = true
  | [], _ => rfl
  | d :: r, h => by
    simp only [PyData.canLayAll0, Bool.and_eq_true]
    exact ⟨h d List.mem_cons_self, lay_all (p := p) r fun e he => h e (List.mem_cons_of_mem _ he)⟩
theorem depth_all {n : Nat} : ∀ ds : List PyData, (∀ d ∈ ds, PyData.depth d ≤ n) → PyData.depthAll ds ≤ n
  | [], _ => Nat.zero_le _
  | d :: r, h => by
    simp only [PyData.depthAll]
    exact Nat.max_le.mpr ⟨h d List.mem_cons_self, depth_all r fun e he => h e (List.mem_cons_of_mem _ he)⟩
theorem okD.lay : ∀ {n : Nat} {d : PyData}, okD n d → PyData.canLay0 d = true ∧ PyData.depth d ≤ n
  | 0, _, h => h.elim
  | _ + 1, .none, _ => ⟨rfl, Nat.zero_le _⟩
  | _ + 1, .bool _, _ => ⟨rfl, Nat.zero_le _⟩
  | _ + 1, .int _, _ => ⟨rfl, Nat.zero_le _⟩
  | _ + 1, .str _, h => ⟨h, Nat.zero_le _⟩
  | n + 1, .list ds, h => by
    simp only [PyData.canLay0, PyData.depth]
    exact ⟨lay_all (p := fun _ => true) ds fun d hd => (h.2 d hd).lay.1, Nat.succ_le_succ (depth_all ds fun d hd => (h.2 d hd).lay.2)⟩
  | n + 1, .tuple ds, h => by
    simp only [PyData.canLay0, PyData.depth]
    exact ⟨lay_all (p := fun _ => true) ds fun d hd => (h.2 d hd).lay.1, Nat.succ_le_succ (depth_all ds fun d hd => (h.2 d hd).lay.2)⟩
  | _ + 1, .dict _, h => h.elim
theorem okD.shaped {n : Nat} {d : PyData} (h : okD n d) (l : n ≤ 64) : SeqAt.shaped d = true := by
  obtain ⟨h1, h2⟩ := h.lay
  simp only [SeqAt.shaped, h1, Bool.true_and, decide_eq_true_eq]
  omega
def asc (t : Tx) : Prop := ∀ c ∈ t, c < 128
theorem asc_ok {t : Tx} (h : asc t) : PyData.strOk (S t) = true := by
  simp only [PyData.strOk]
  rw [← Array.all_toList, List.all_eq_true]
  intro c hc
  have := h c hc
  simp only [decide_eq_true_eq]
  omega
theorem asc_app {a b : Tx} (ha : asc a) (hb : asc b) : asc (a ++ b) := fun c hc => (List.mem_append.mp hc).elim (ha c) (hb c)
theorem asc_drop {a : Tx} (n : Nat) (ha : asc a) : asc (a.drop n) := fun c hc => ha c (List.mem_of_mem_drop hc)
theorem asc_take {a : Tx} (n : Nat) (ha : asc a) : asc (a.take n) := fun c hc => ha c (List.mem_of_mem_take hc)
/-! ### a def by its name -/
structure Cal (P : Program) (w : World) (K : PySem.W.Frag) (mg : Str → Option Value) (base : Heap) (CX : CXT) (k : Nat) (x : Str) (sp : Sp) : Prop where
  ex : ∃ (f : Addr) (fd : FuncData) (ps : List Str), FnOk P w K mg base CX k f fd ps sp ∧ mg x = some (.ref f) ∧ PySem.W.keepIn K (.ref f) = true ∧ Binds K fd ps []
section
variable {X : Cx} {k j : Nat} {x m : Str} {sp : Sp} {p pos apos : Pos} {e o : Expr} {es : List Expr} {ta : TE} {t : TA}
theorem pe_c (c : Cal X.prog X.w X.K X.mg X.base CX0 k x sp) (hr : Room j X.A) (hk : k ≤ j) (hg : Gl X x) (ha : PA X (e :: es) t)
    (hdb : (x == ("__debug__" : Str)) = false := by decide) (he : starEach (e :: es) X.env = (false, eval e X.env) :: starEach es X.env := by rfl) (hpl : (backTo pos (starEach es X.env)).any (·.1) = false := by rfl) :
    PE X (.Call (.Name x p) (e :: es) [] pos) (tCall sp [] E0 t) := by
  obtain ⟨f, fd, ps, F, hm, kp, b⟩ := c.ex
  exact pe_call F (hr.mono hk) hg hm kp b .nil pass0 ha hdb he hpl
theorem pe_gc {v : V} (hg : Gl X x) (h : ∃ u, X.mg x = some u ∧ RelV v u) (hd : (x == ("__debug__" : Str)) = false := by decide) : PE X (.Name x pos) (tC v) := by
  obtain ⟨u, hm, r⟩ := h
  exact pe_glob hg hm r hd
end
/-! ### the box of a script's numbers: G is all that is known beside it -/
def Bx (b : Addr) (G H : Hp) : Prop := Same G H ∧ G b = none ∧ ∃ (l : Addr) (ns : List Int) (s : Int), G l = none ∧ H b = some (.lst [.ref l, .int s]) ∧ H l = some (.lst (ns.map V.int)) ∧ 0 ≤ s ∧ s < 2147483647
theorem Bx.ex {b : Addr} {G H : Hp} (h : Bx b G H) : Same G H := h.1
theorem Bx.alloc {b p : Addr} {G H : Hp} {o : HO} (h : Bx b G H) (hp : H p = none) : Bx b (upd G p o) (upd H p o) := by
  obtain ⟨s0, gb, l, ns, s, gl, hb, hl, r⟩ := h
  have nb : b ≠ p := ne_of_none hb hp
  have nl : l ≠ p := ne_of_none hl hp
  refine ⟨fun a u e => ?_, by rw [upd_ne nb]; exact gb, l, ns, s, by rw [upd_ne nl]; exact gl, by rw [upd_ne nb]; exact hb, by rw [upd_ne nl]; exact hl, r⟩
  by_cases ha : a = p
  · subst ha
    rw [upd_same] at e ⊢
    exact e
  · rw [upd_ne ha] at e ⊢
    exact s0 a u e
theorem Bx.put {b p : Addr} {G H : Hp} {o o' : HO} (h : Bx b G H) (hp : G p = some o) : Bx b (upd G p o') (upd H p o') := by
  obtain ⟨s0, gb, l, ns, s, gl, hb, hl, r⟩ := h
  have nb : b ≠ p := (ne_of_none hp gb).symm
  have nl : l ≠ p := (ne_of_none hp gl).symm
  refine ⟨fun a u e => ?_, by rw [upd_ne nb]; exact gb, l, ns, s, by rw [upd_ne nl]; exact gl, by rw [upd_ne nb]; exact hb, by rw [upd_ne nl]; exact hl, r⟩
  by_cases ha : a = p
  · subst ha
    rw [upd_same] at e ⊢
    exact e
  · rw [upd_ne ha] at e ⊢
    exact s0 a u e
abbrev FunS (K : PySem.W.Frag) (x : Str) (st : Stmt) (f : Addr) (fd : FuncData) : Prop := FunD K x x (defArgs st) (defBody st) (defScope st) [] [] f fd
theorem cal_of {P : Program} {w : World} {K : PySem.W.Frag} {mg : Str → Option Value} {base : Heap} {CX : CXT} {k : Nat} {x : Str} {st : Stmt} {f : Addr} {fd : FuncData} {ps : List Str} {sp : Sp} (F : FunS K x st f fd) (ok : FnOk P w K mg base CX k f fd ps sp) (m : mg x = some (.ref f)) (b : Binds K fd ps []) :
    Cal P w K mg base CX k x sp := ⟨f, fd, ps, ok, m, F.kp, b⟩
theorem start2 {a b c : Str} {u v : V} : L2.start [a, b, c] [u, v] = [some u, some v, none] := rfl
theorem cxOf_K {CX : CXT} {P : Program} {w : World} {K : PySem.W.Frag} {mg : Str → Option Value} {base : Heap} {N : List Str} {qual : Str} {scope : Scope} {f : Addr} {cd : Value} {A : Around} {outer : List Env} {s : Shared} {H : Hp} {E : XK} :
    (cxOf CX P w K mg base N qual scope f cd A outer s H E).K = K := rfl
/-- a new object: the heap behind it by a letter -/
theorem al_ {H H1 : Hp} {p : Addr} {o : HO} (hp : H p = none) (e : upd H p o = H1) : Same H H1 ∧ H1 p = some o := by
  subst e
  exact ⟨same_new hp, upd_same⟩
theorem alB_ {b p : Addr} {G H H1 : Hp} {o : HO} (B : Bx b G H) (hp : H p = none) (e : upd H p o = H1) : ∃ G1, G p = none ∧ Same G G1 ∧ Bx b G1 H1 ∧ G1 p = some o := by
  subst e
  exact ⟨upd G p o, B.ex.free hp, same_new (B.ex.free hp), B.alloc hp, upd_same⟩
theorem at0 {α : Type} (x : α) (r : List α) : atI (x :: r) 0 = some x := atI_nat (j := 0) rfl
theorem at1 {α : Type} (x y : α) (r : List α) : atI (x :: y :: r) 1 = some y := atI_nat (j := 1) rfl
theorem ixn {n j : Nat} (h : j < n) : ixN n (j : Int) = some j := by
  unfold ixN
  rw [if_pos (by omega), if_pos (by omega)]
  simp
theorem ix0 (n : Nat) : ixN (n + 1) 0 = some 0 := ixn (j := 0) (by omega)
/-! ### loops -/
theorem drop_cons {α : Type} {xs : List α} {i : Nat} {x : α} (h : xs[i]? = some x) : xs.drop i = x :: xs.drop (i + 1) := by
  obtain ⟨h1, h2⟩ := List.getElem?_eq_some_iff.mp h
  rw [← h2]
  exact List.drop_eq_getElem_cons h1
/-- the turns of a for, once what it walks has come -/
def LoopP (J : It) (g : TG) (tb : TS) (D : Ends) (σ : L2.St) (H : Hp) : Prop := ∃ W : Nat → Nat → L2.St → Hp → Prop, (∃ m, W 0 m σ H) ∧ ∀ i m σ H, W i m σ H →
  (J.stop i H ∧ D.nx σ H) ∨ (J.go i H ∧ ∃ N : L2.St → Hp → Prop, (∀ σ' H', N σ' H' → ∃ m', m' < m ∧ W (i + 1) m' σ' H') ∧ ∀ x H', J.yld i H x H' → g x σ H' fun σ2 H2 => tb { D with nx := N, ct := N, bk := D.nx } σ2 H2)
theorem tFor_eq {wi : TI} {g : TG} {tb : TS} {D : Ends} {σ : L2.St} {H : Hp} : tFor wi g tb D σ H = wi σ H fun J H1 => LoopP J g tb D σ H1 := rfl
/-- the turns of a comprehension, L the new list -/
def CompP (J : It) (g : TG) (tt : TT) (te : TE) (vs : List Nat) (σ : L2.St) (L : Addr) (Q : VK) (H : Hp) : Prop := ∃ W : Nat → Nat → Hp → Prop, (∃ m, W 0 m H) ∧ ∀ i m H, W i m H →
  (J.stop i H ∧ Q (.ref L) H) ∨ (J.go i H ∧ ∃ Nx : Hp → Prop, (∀ H', Nx H' → ∃ m', m' < m ∧ W (i + 1) m' H') ∧ ∀ x H', J.yld i H x H' → g x (wipe σ vs) H' fun σ2 H2 => wipe σ2 vs = wipe σ vs ∧ tt σ2 H2 fun b H3 =>
    if b = true then te σ2 H3 fun y H4 => ∃ acc, H4 L = some (.lst acc) ∧ acc.length < sizeLine ∧ Nx (upd H4 L (.lst (acc ++ [y]))) else Nx H3)
theorem tLc_eq {wi : TI} {g : TG} {tt : TT} {te : TE} {vs : List Nat} {σ : L2.St} {H : Hp} {Q : VK} : tLc wi g tt te vs σ H Q = wi σ H fun J H1 => ∀ L, H1 L = none → CompP J g tt te vs σ L Q (upd H1 L (.lst [])) := rfl
theorem iList_eq {K : PySem.W.Frag} {te : TE} {σ : L2.St} {H : Hp} {R : It → Hp → Prop} : iList K te σ H R = te σ H fun v H1 => ∃ a, v = .ref a ∧ (∃ xs, SqL K H1 a xs) ∧ R (Itl K a) H1 := rfl
theorem iTup_eq {K : PySem.W.Frag} {te : TE} {σ : L2.St} {H : Hp} {R : It → Hp → Prop} : iTup K te σ H R = te σ H fun v H1 => ∃ a, v = .ref a ∧ (∃ xs, SqT K H1 a xs) ∧ R (Itt K a) H1 := rfl
theorem iRng1_eq {t : TA} {σ : L2.St} {H : Hp} {R : It → Hp → Prop} : iRng1 t σ H R = t σ H fun vs H1 => ∃ j : Int, vs = [.int j] ∧ -(2 ^ 62) ≤ j ∧ j < 2 ^ 62 ∧ R (Itr 0 j.toNat) H1 := rfl
theorem iStr_eq {te : TE} {σ : L2.St} {H : Hp} {R : It → Hp → Prop} : iStr te σ H R = te σ H fun v H1 => ∃ x, v = .str x ∧ R (Its x) H1 := rfl
section
variable {g : TG} {tb : TS} {D : Ends} {σ : L2.St} {H : Hp} {tt : TT} {te : TE} {vs : List Nat} {L : Addr} {Q : VK}
/-- over a list that stands: Pv by what is left -/
theorem loop_list {K : PySem.W.Frag} {a : Addr} (xs : List V) (Pv : List V → L2.St → Hp → Prop) (h0 : Pv xs σ H) (hl : ∀ r σ H, Pv r σ H → SqL K H a xs)
    (hs : ∀ x r σ H, Pv (x :: r) σ H → g x σ H fun σ2 H2 => tb { D with nx := Pv r, ct := Pv r, bk := D.nx } σ2 H2) (hd : ∀ σ H, Pv [] σ H → D.nx σ H) : LoopP (Itl K a) g tb D σ H :=
  for_list (fun i σ H => Pv (xs.drop i) σ H) h0 (fun i σ H _ q => hl _ _ _ q) (fun i x σ H e q => by
    rw [drop_cons e] at q
    exact hs x _ σ H q) fun σ H q => hd σ H (by rw [List.drop_length] at q; exact q)
theorem loop_tup {K : PySem.W.Frag} {a : Addr} (xs : List V) (Pv : List V → L2.St → Hp → Prop) (h0 : Pv xs σ H) (hl : ∀ r σ H, Pv r σ H → SqT K H a xs)
    (hs : ∀ x r σ H, Pv (x :: r) σ H → g x σ H fun σ2 H2 => tb { D with nx := Pv r, ct := Pv r, bk := D.nx } σ2 H2) (hd : ∀ σ H, Pv [] σ H → D.nx σ H) : LoopP (Itt K a) g tb D σ H :=
  for_tup (fun i σ H => Pv (xs.drop i) σ H) h0 (fun i σ H _ q => hl _ _ _ q) (fun i x σ H e q => by
    rw [drop_cons e] at q
    exact hs x _ σ H q) fun σ H q => hd σ H (by rw [List.drop_length] at q; exact q)
/-- over a range from 0, by the turn -/
theorem loop_range {n : Nat} (Pv : Nat → L2.St → Hp → Prop) (h0 : Pv 0 σ H)
    (hs : ∀ i σ H, i < n → Pv i σ H → g (.int i) σ H fun σ2 H2 => tb { D with nx := Pv (i + 1), ct := Pv (i + 1), bk := D.nx } σ2 H2) (hd : ∀ σ H, Pv n σ H → D.nx σ H) : LoopP (Itr 0 n) g tb D σ H :=
  for_range Pv h0 (fun i σ H hi p => by
    have e0 : (0 : Int) + (i : Int) = (i : Int) := Int.zero_add _
    rw [e0]
    exact hs i σ H hi p) hd
/-- over a text's signs -/
theorem loop_str (cs : Tx) (Pv : Tx → L2.St → Hp → Prop) (h0 : Pv cs σ H)
    (hs : ∀ c r σ H, Pv (c :: r) σ H → g (.str (S [c])) σ H fun σ2 H2 => tb { D with nx := Pv r, ct := Pv r, bk := D.nx } σ2 H2) (hd : ∀ σ H, Pv [] σ H → D.nx σ H) : LoopP (Its (S cs)) g tb D σ H := by
  refine ⟨fun i m σ H => m = cs.length - i ∧ i ≤ cs.length ∧ Pv (cs.drop i) σ H, ⟨cs.length, by simp, Nat.zero_le _, h0⟩, ?_⟩
  rintro i m σ H ⟨rfl, hi, p⟩
  have sz : (S cs).cps.size = cs.length := by simp
  by_cases hlt : i < cs.length
  · refine .inr ⟨by show i < (S cs).cps.size; omega, Pv (cs.drop (i + 1)), fun σ' H' p' => ⟨cs.length - (i + 1), by omega, rfl, hlt, p'⟩, fun x H' y => ?_⟩
    obtain ⟨e, c, e2, e3⟩ := y
    subst e e3
    have e4 : cs[i]? = some c := by
      rw [← e2]
      simp
    rw [drop_cons e4] at p
    exact hs c _ σ _ p
  · have e : i = cs.length := by omega
    subst e
    rw [List.drop_length] at p
    exact .inl ⟨by show (S cs).cps.size ≤ _; omega, hd σ H p⟩
/-- comprehensions: what stands behind a turn -/
def CNx (L : Addr) (i : Nat) (P : List V → Hp → Prop) (H : Hp) : Prop := ∃ acc, H L = some (.lst acc) ∧ acc.length ≤ i ∧ P acc H
theorem cput {i : Nat} {acc : List V} {y : V} {P : List V → Hp → Prop} (hL : H L = some (.lst acc)) (ha : acc.length ≤ i) (hi : i < 1000000) (h : P (acc ++ [y]) (upd H L (.lst (acc ++ [y])))) :
    ∃ acc, H L = some (.lst acc) ∧ acc.length < sizeLine ∧ CNx L (i + 1) P (upd H L (.lst (acc ++ [y]))) :=
  ⟨acc, hL, size_lt (by omega), acc ++ [y], upd_same, by rw [List.length_append, List.length_singleton]; omega, h⟩
theorem cskip {i : Nat} {acc : List V} {P : List V → Hp → Prop} (hL : H L = some (.lst acc)) (ha : acc.length ≤ i) (h : P acc H) : CNx L (i + 1) P H := ⟨acc, hL, by omega, h⟩
theorem comp_list {K : PySem.W.Frag} {a : Addr} (xs : List V) (Pv : List V → List V → Hp → Prop) (hz : xs.length ≤ 1000000) (h0 : Pv xs [] H) (hL0 : H L = some (.lst [])) (hl : ∀ r acc H, Pv r acc H → SqL K H a xs)
    (hs : ∀ i x r acc H, H L = some (.lst acc) → acc.length ≤ i → i < 1000000 → Pv (x :: r) acc H → g x (wipe σ vs) H fun σ2 H2 => wipe σ2 vs = wipe σ vs ∧ tt σ2 H2 fun b H3 =>
      if b = true then te σ2 H3 fun y H4 => ∃ acc, H4 L = some (.lst acc) ∧ acc.length < sizeLine ∧ CNx L (i + 1) (Pv r) (upd H4 L (.lst (acc ++ [y]))) else CNx L (i + 1) (Pv r) H3)
    (hd : ∀ acc H, H L = some (.lst acc) → acc.length ≤ xs.length → Pv [] acc H → Q (.ref L) H) : CompP (Itl K a) g tt te vs σ L Q H := by
  refine ⟨fun i m H => m = xs.length - i ∧ i ≤ xs.length ∧ CNx L i (Pv (xs.drop i)) H, ⟨xs.length, by simp, Nat.zero_le _, [], hL0, Nat.le_refl _, h0⟩, ?_⟩
  rintro i m H ⟨rfl, hi, acc, hA, hn, p⟩
  have q := hl _ _ _ p
  by_cases hlt : i < xs.length
  · refine .inr ⟨⟨xs, xs[i], q, by simp [hlt]⟩, CNx L (i + 1) (Pv (xs.drop (i + 1))), fun H' p' => ⟨xs.length - (i + 1), by omega, rfl, hlt, p'⟩, fun x H' y => ?_⟩
    obtain ⟨e, y⟩ := y
    subst e
    rw [drop_cons (y xs q)] at p
    exact hs i x _ acc _ hA hn (by omega) p
  · have e : i = xs.length := by omega
    subst e
    rw [List.drop_length] at p
    exact .inl ⟨⟨xs, q, Nat.le_refl _⟩, hd acc H hA hn p⟩
theorem comp_tup {K : PySem.W.Frag} {a : Addr} (xs : List V) (Pv : List V → List V → Hp → Prop) (hz : xs.length ≤ 1000000) (h0 : Pv xs [] H) (hL0 : H L = some (.lst [])) (hl : ∀ r acc H, Pv r acc H → SqT K H a xs)
    (hs : ∀ i x r acc H, H L = some (.lst acc) → acc.length ≤ i → i < 1000000 → Pv (x :: r) acc H → g x (wipe σ vs) H fun σ2 H2 => wipe σ2 vs = wipe σ vs ∧ tt σ2 H2 fun b H3 =>
      if b = true then te σ2 H3 fun y H4 => ∃ acc, H4 L = some (.lst acc) ∧ acc.length < sizeLine ∧ CNx L (i + 1) (Pv r) (upd H4 L (.lst (acc ++ [y]))) else CNx L (i + 1) (Pv r) H3)
    (hd : ∀ acc H, H L = some (.lst acc) → acc.length ≤ xs.length → Pv [] acc H → Q (.ref L) H) : CompP (Itt K a) g tt te vs σ L Q H := by
  refine ⟨fun i m H => m = xs.length - i ∧ i ≤ xs.length ∧ CNx L i (Pv (xs.drop i)) H, ⟨xs.length, by simp, Nat.zero_le _, [], hL0, Nat.le_refl _, h0⟩, ?_⟩
  rintro i m H ⟨rfl, hi, acc, hA, hn, p⟩
  have q := hl _ _ _ p
  by_cases hlt : i < xs.length
  · refine .inr ⟨⟨xs, xs[i], q, by simp [hlt]⟩, CNx L (i + 1) (Pv (xs.drop (i + 1))), fun H' p' => ⟨xs.length - (i + 1), by omega, rfl, hlt, p'⟩, fun x H' y => ?_⟩
    obtain ⟨e, y⟩ := y
    subst e
    rw [drop_cons (y xs q)] at p
    exact hs i x _ acc _ hA hn (by omega) p
  · have e : i = xs.length := by omega
    subst e
    rw [List.drop_length] at p
    exact .inl ⟨⟨xs, q, Nat.le_refl _⟩, hd acc H hA hn p⟩
theorem comp_str (cs : Tx) (Pv : Tx → List V → Hp → Prop) (hz : cs.length ≤ 1000000) (h0 : Pv cs [] H) (hL0 : H L = some (.lst []))
    (hs : ∀ i c r acc H, H L = some (.lst acc) → acc.length ≤ i → i < 1000000 → Pv (c :: r) acc H → g (.str (S [c])) (wipe σ vs) H fun σ2 H2 => wipe σ2 vs = wipe σ vs ∧ tt σ2 H2 fun b H3 =>
      if b = true then te σ2 H3 fun y H4 => ∃ acc, H4 L = some (.lst acc) ∧ acc.length < sizeLine ∧ CNx L (i + 1) (Pv r) (upd H4 L (.lst (acc ++ [y]))) else CNx L (i + 1) (Pv r) H3)
    (hd : ∀ acc H, H L = some (.lst acc) → acc.length ≤ cs.length → Pv [] acc H → Q (.ref L) H) : CompP (Its (S cs)) g tt te vs σ L Q H := by
  refine ⟨fun i m H => m = cs.length - i ∧ i ≤ cs.length ∧ CNx L i (Pv (cs.drop i)) H, ⟨cs.length, by simp, Nat.zero_le _, [], hL0, Nat.le_refl _, h0⟩, ?_⟩
  rintro i m H ⟨rfl, hi, acc, hA, hn, p⟩
  have sz : (S cs).cps.size = cs.length := by simp
  by_cases hlt : i < cs.length
  · refine .inr ⟨by show i < (S cs).cps.size; omega, CNx L (i + 1) (Pv (cs.drop (i + 1))), fun H' p' => ⟨cs.length - (i + 1), by omega, rfl, hlt, p'⟩, fun x H' y => ?_⟩
    obtain ⟨e, c, e2, e3⟩ := y
    subst e e3
    have e4 : cs[i]? = some c := by
      rw [← e2]
      simp
    rw [drop_cons e4] at p
    exact hs i c _ acc _ hA hn (by omega) p
  · have e : i = cs.length := by omega
    subst e
    rw [List.drop_length] at p
    exact .inl ⟨by show (S cs).cps.size ≤ _; omega, hd acc H hA hn p⟩
theorem comp_range {n : Nat} (Pv : Nat → List V → Hp → Prop) (hz : n ≤ 1000000) (h0 : Pv 0 [] H) (hL0 : H L = some (.lst []))
    (hs : ∀ i acc H, i < n → H L = some (.lst acc) → acc.length ≤ i → i < 1000000 → Pv i acc H → g (.int i) (wipe σ vs) H fun σ2 H2 => wipe σ2 vs = wipe σ vs ∧ tt σ2 H2 fun b H3 =>
      if b = true then te σ2 H3 fun y H4 => ∃ acc, H4 L = some (.lst acc) ∧ acc.length < sizeLine ∧ CNx L (i + 1) (Pv (i + 1)) (upd H4 L (.lst (acc ++ [y]))) else CNx L (i + 1) (Pv (i + 1)) H3)
    (hd : ∀ acc H, H L = some (.lst acc) → acc.length ≤ n → Pv n acc H → Q (.ref L) H) : CompP (Itr 0 n) g tt te vs σ L Q H := by
  refine ⟨fun i m H => m = n - i ∧ i ≤ n ∧ CNx L i (Pv i) H, ⟨n, by simp, Nat.zero_le _, [], hL0, Nat.le_refl _, h0⟩, ?_⟩
  rintro i m H ⟨rfl, hi, acc, hA, hn, p⟩
  by_cases hlt : i < n
  · refine .inr ⟨hlt, CNx L (i + 1) (Pv (i + 1)), fun H' p' => ⟨n - (i + 1), by omega, rfl, hlt, p'⟩, fun x H' y => ?_⟩
    obtain ⟨e, e2⟩ := y
    subst e e2
    have e0 : (0 : Int) + (i : Int) = (i : Int) := Int.zero_add _
    rw [e0]
    exact hs i acc _ hlt hA hn (by omega) p
  · have e : i = n := by omega
    subst e
    exact .inl ⟨Nat.le_refl _, hd acc H hA hn p⟩
/-- a comprehension over a range whose element draws: each item as P says -/
theorem comp_draw {n j : Nat} {b : Addr} {G : Hp} (P : V → Hp → Prop) (mono : ∀ v G G', KT G G' → P v G → P v G') (hz : n ≤ 1000000) (B : Bx b G H) (hL : H L = none)
    (hw : ∀ x, wipe ((wipe σ vs).set j (some x)) vs = wipe σ vs)
    (hs : ∀ (i : Nat) G' H' (Q' : VK), i < n → Same G G' → Bx b G' H' → (∀ v G2 H2, Same G' G2 → Bx b G2 H2 → P v G2 → Q' v H2) → te ((wipe σ vs).set j (some (.int i))) H' Q')
    (hd : ∀ acc G' H', Same G G' → Bx b G' H' → G' L = some (.lst acc) → acc.length = n → (∀ v ∈ acc, P v G') → Q (.ref L) H') : CompP (Itr 0 n) (gName j) tYes te vs σ L Q (upd H L (.lst [])) := by
  have B0 := B.alloc (o := .lst []) hL
  have gl : G L = none := B.ex.free hL
  refine comp_range (fun i acc H' => acc.length = i ∧ ∃ G', Same G G' ∧ Bx b G' H' ∧ G' L = some (.lst acc) ∧ ∀ v ∈ acc, P v G') hz ⟨rfl, _, same_new gl, B0, upd_same, fun _ h => nomatch h⟩ upd_same ?_ ?_
  · rintro i acc H' hi hA hn hi2 ⟨hlen, G', s1, B1, hl, hp⟩
    show _ ∧ te _ _ _
    refine ⟨hw _, hs i G' H' _ hi s1 B1 fun v G2 H2 s2 B2 pv => ?_⟩
    have hl2 := s2 _ _ hl
    refine cput (B2.ex _ _ hl2) hn hi2 ⟨by rw [List.length_append, List.length_singleton, hlen], _, same_mut (s1.trans s2) gl, B2.put hl2, upd_same, fun u hu => ?_⟩
    have kt : KT G2 (upd G2 L (.lst (acc ++ [v]))) := KT.put hl2 (by intro xs q; cases q) (by intro o xs q; cases q)
    rcases List.mem_append.mp hu with h | h
    · exact mono _ _ _ kt (mono _ _ _ (KT.of s2) (hp u h))
    · rw [List.mem_singleton.mp h]
      exact mono _ _ _ kt pv
  · rintro acc H' hA hn ⟨hlen, G', s1, B1, hl, hp⟩
    exact hd acc G' H' s1 B1 hl hlen hp
/-- while, by a number that falls -/
theorem loop_while {c : TT} (Pv : Nat → L2.St → Hp → Prop) (m0 : Nat) (h0 : Pv m0 σ H)
    (hs : ∀ m σ H, Pv m σ H → c σ H fun b H1 => if b = true then ∃ m', m' < m ∧ tb { D with nx := Pv m', ct := Pv m', bk := D.nx } σ H1 else D.nx σ H1)
    (mono : ∀ σ H Q Q', (∀ b H1, Q b H1 → Q' b H1) → c σ H Q → c σ H Q') : tWhile c tb D σ H := by
  refine ⟨Pv, ⟨m0, h0⟩, fun m σ H p => ?_⟩
  refine mono σ H _ _ (fun b H1 q => ?_) (hs m σ H p)
  cases b with
  | true =>
    obtain ⟨m', l, q⟩ := q
    exact ⟨Pv m', fun σ' H' p' => ⟨m', l, p'⟩, q⟩
  | false => exact q
end
/-! ### tests whose answer is known -/
theorem vT {A B : Prop} (h : A) : ∃ c, V.bl true = V.bl c ∧ if c = true then A else B := ⟨true, rfl, by rw [if_pos rfl]; exact h⟩
theorem vF {A B : Prop} (h : B) : ∃ c, V.bl false = V.bl c ∧ if c = true then A else B := ⟨false, rfl, by rw [if_neg (fun z => nomatch z)]; exact h⟩
theorem nT {A B : Prop} (h : B) : ∃ c, V.bl true = V.bl c ∧ if c = false then A else B := ⟨true, rfl, by rw [if_neg (fun z => nomatch z)]; exact h⟩
theorem nF {A B : Prop} (h : A) : ∃ c, V.bl false = V.bl c ∧ if c = false then A else B := ⟨false, rfl, by rw [if_pos rfl]; exact h⟩
theorem start1_3 {a b c : Str} {u : V} : L2.start [a, b, c] [u] = [some u, none, none] := rfl
/-! ### slices -/
def cutL {α : Type} (l : List α) (lo hi : Option Int) : List α := (l.drop (HT.sIx l.length 0 lo)).take (HT.sIx l.length l.length hi - HT.sIx l.length 0 lo)
theorem cutS_S (l : Tx) (lo hi : Option Int) : cutS (S l) lo hi = S (cutL l lo hi) := by
  unfold cutS cutL
  rw [S_len]
theorem cutV_L (l : List V) (lo hi : Option Int) : cutV l lo hi = cutL l lo hi := rfl
theorem cutL_from {α : Type} (l : List α) (k : Nat) : cutL l (some (k : Int)) none = l.drop k := by
  unfold cutL
  rw [HT.sIx_nat, HT.sIx_none]
  by_cases h : k ≤ l.length
  · rw [Nat.min_eq_left h, List.take_of_length_le (by rw [List.length_drop]; omega)]
  · rw [Nat.min_eq_right (by omega), List.drop_length, List.drop_of_length_le (by omega), List.take_nil]
theorem cutL_to {α : Type} (l : List α) (k : Nat) : cutL l none (some (k : Int)) = l.take k := by
  unfold cutL
  rw [HT.sIx_nat, HT.sIx_none, List.drop_zero, Nat.sub_zero]
  by_cases h : k ≤ l.length
  · rw [Nat.min_eq_left h]
  · rw [Nat.min_eq_right (by omega), List.take_length, List.take_of_length_le (by omega)]
theorem cutL_mid {α : Type} (l : List α) (i j : Nat) : cutL l (some (i : Int)) (some (j : Int)) = (l.take j).drop i := by
  unfold cutL
  rw [HT.sIx_nat, HT.sIx_nat, List.drop_take]
  by_cases h : i ≤ l.length
  · rw [Nat.min_eq_left h]
    by_cases h2 : j ≤ l.length
    · rw [Nat.min_eq_left h2]
    · rw [Nat.min_eq_right (by omega), List.take_of_length_le (by rw [List.length_drop]; omega), List.take_of_length_le (by rw [List.length_drop]; omega)]
  · rw [Nat.min_eq_right (by omega : l.length ≤ i), List.drop_length, List.drop_of_length_le (by omega : l.length ≤ i)]
    simp
theorem sIx_neg {n d : Nat} {v : Int} (h : v < 0) : HT.sIx n d (some v) = (v + (n : Int)).toNat := by
  show (if v < 0 then _ else _) = _
  rw [if_pos h]
/-- l[:-1] -/
theorem cutL_init {α : Type} (l : List α) : cutL l none (some (-1)) = l.dropLast := by
  unfold cutL
  rw [sIx_neg (by decide), HT.sIx_none, List.drop_zero, Nat.sub_zero, List.dropLast_eq_take]
  congr 1
  omega
/-- l[-1:] -/
theorem cutL_last {α : Type} (l : List α) : cutL l (some (-1)) none = l.drop (l.length - 1) := by
  unfold cutL
  rw [sIx_neg (by decide), HT.sIx_none]
  have e : (-1 + (l.length : Int)).toNat = l.length - 1 := by omega
  rw [e, List.take_of_length_le (by rw [List.length_drop]; omega)]
/-- l[1:-1] -/
theorem cutL_in {α : Type} (l : List α) : cutL l (some 1) (some (-1)) = (l.drop 1).dropLast := by
  unfold cutL
  have e1 : HT.sIx l.length 0 (some 1) = min 1 l.length := HT.sIx_nat _ _ 1
  rw [sIx_neg (by decide), e1, List.dropLast_eq_take, List.length_drop]
  have e : (-1 + (l.length : Int)).toNat = l.length - 1 := by omega
  rw [e]
  cases l with
  | nil => rfl
  | cons a r =>
    have e2 : min 1 (a :: r).length = 1 := by rw [List.length_cons]; omega
    rw [e2]
theorem atI_neg {α : Type} (l : List α) (k : Nat) (h0 : 0 < k) (h : k ≤ l.length) : atI l (-(k : Int)) = l[l.length - k]? := by
  unfold atI ixN
  rw [if_neg (by omega), if_pos (by omega)]
  show l[(-(k : Int) + (l.length : Int)).toNat]? = _
  have e : (-(k : Int) + (l.length : Int)).toNat = l.length - k := by omega
  rw [e]
/-- while, by a number that falls, the test told -/
theorem loop_whileP {c : TT} {tb : TS} {D : Ends} {σ : L2.St} {H : Hp} (Pv : Nat → L2.St → Hp → Prop) (m0 : Nat) (h0 : Pv m0 σ H)
    (hs : ∀ m σ H, Pv m σ H → ∃ b, (∀ R : Bool → Hp → Prop, R b H → c σ H R) ∧ if b = true then ∃ m', m' < m ∧ tb { D with nx := Pv m', ct := Pv m', bk := D.nx } σ H else D.nx σ H) : tWhile c tb D σ H := by
  refine ⟨Pv, ⟨m0, h0⟩, fun m σ H p => ?_⟩
  obtain ⟨b, hb, q⟩ := hs m σ H p
  refine hb _ ?_
  cases b with
  | true =>
    obtain ⟨m', l, q⟩ := q
    exact ⟨Pv m', fun σ' H' p' => ⟨m', l, p'⟩, q⟩
  | false => exact q
theorem start2_3 {a b c : Str} {u v : V} : L2.start [a, b, c] [u, v] = [some u, some v, none] := rfl
theorem start1_8 {a b c d e f g h : Str} {u : V} : L2.start [a, b, c, d, e, f, g, h] [u] = [some u, none, none, none, none, none, none, none] := rfl
theorem start1_1 {a : Str} {u : V} : L2.start [a] [u] = [some u] := rfl
theorem start1_2 {a b : Str} {u : V} : L2.start [a, b] [u] = [some u, none] := rfl
theorem start1_4 {a b c d : Str} {u : V} : L2.start [a, b, c, d] [u] = [some u, none, none, none] := rfl
/-- an if whose test gives b and changes nothing -/
theorem if_pure {t : TT} {u v : TS} {D : Ends} {σ : L2.St} {H : Hp} (b : Bool) (ht : ∀ R : Bool → Hp → Prop, R b H → t σ H R) (h1 : b = true → u D σ H) (h2 : b = false → v D σ H) : tIfS t u v D σ H := by
  refine ht _ ?_
  cases b with
  | true => exact h1 rfl
  | false => exact h2 rfl
/-- .. and may make new objects -/
theorem if_new {t : TT} {u v : TS} {D : Ends} {σ : L2.St} {H : Hp} (b : Bool) (ht : ∀ R : Bool → Hp → Prop, (∀ H', Same H H' → R b H') → t σ H R) (h1 : b = true → ∀ H', Same H H' → u D σ H') (h2 : b = false → ∀ H', Same H H' → v D σ H') : tIfS t u v D σ H := by
  refine ht _ fun H' s => ?_
  cases b with
  | true => exact h1 rfl H' s
  | false => exact h2 rfl H' s
theorem inV_S (x : Tx) (ts : List Tx) : inV (.str (S x)) (ts.map fun t => .str (S t)) = ts.contains x := by
  induction ts with
  | nil => rfl
  | cons t r ih =>
    have e : inV (.str (S x)) ((t :: r).map fun t => .str (S t)) = ((S t == S x) || inV (.str (S x)) (r.map fun t => .str (S t))) := rfl
    rw [e, ih, SX.S_beq, List.contains_cons]
    congr 1
    rw [Bool.eq_iff_iff, beq_iff_eq, beq_iff_eq]
    exact eq_comm
theorem cutL_toneg {α : Type} (l : List α) (k : Nat) (h0 : 0 < k) : cutL l none (some (-(k : Int))) = l.take (l.length - k) := by
  unfold cutL
  rw [sIx_neg (by omega), HT.sIx_none, List.drop_zero, Nat.sub_zero]
  congr 1
  omega
theorem cutL_fromneg {α : Type} (l : List α) (k : Nat) (h0 : 0 < k) : cutL l (some (-(k : Int))) none = l.drop (l.length - k) := by
  unfold cutL
  rw [sIx_neg (by omega), HT.sIx_none]
  have e : (-(k : Int) + (l.length : Int)).toNat = l.length - k := by omega
  rw [e, List.take_of_length_le (by rw [List.length_drop]; omega)]
theorem cutL_negs {α : Type} (l : List α) (i j : Nat) (h0 : 0 < i) (h1 : 0 < j) : cutL l (some (-(i : Int))) (some (-(j : Int))) = (l.take (l.length - j)).drop (l.length - i) := by
  unfold cutL
  rw [sIx_neg (by omega), sIx_neg (by omega), List.drop_take]
  have e : (-(i : Int) + (l.length : Int)).toNat = l.length - i := by omega
  have e2 : (-(j : Int) + (l.length : Int)).toNat = l.length - j := by omega
  rw [e, e2]
theorem start2_4 {a b c d : Str} {u v : V} : L2.start [a, b, c, d] [u, v] = [some u, some v, none, none] := rfl
theorem start2_9 {a b c d e f g h i : Str} {u v : V} : L2.start [a, b, c, d, e, f, g, h, i] [u, v] = [some u, some v, none, none, none, none, none, none, none] := rfl
theorem in_tup {K : PySem.W.Frag} (neg : Bool) (x : Tx) (ts : List Tx) {H : Hp} {Q : V → Hp → Prop} {p : Addr} (hp : H p = none) (q : ∀ H', Same H H' → Q (.bl (if neg then !ts.contains x else ts.contains x)) H') : rIn K neg (.str (S x)) (.ref p) (upd H p (.tup (ts.map fun t => .str (S t)))) Q := by
  refine ⟨p, _, rfl, .inr (st_of upd_same), rfl, ?_, ?_⟩
  · rw [List.all_map]
    exact List.all_eq_true.mpr fun _ _ => rfl
  · rw [inV_S]
    exact q _ (same_new hp)
theorem in_lst {K : PySem.W.Frag} (neg : Bool) (x : Tx) (ts : List Tx) {H : Hp} {Q : V → Hp → Prop} {p : Addr} (hp : H p = none) (q : ∀ H', Same H H' → Q (.bl (if neg then !ts.contains x else ts.contains x)) H') : rIn K neg (.str (S x)) (.ref p) (upd H p (.lst (ts.map fun t => .str (S t)))) Q := by
  refine ⟨p, _, rfl, .inl (sq_of upd_same), rfl, ?_, ?_⟩
  · rw [List.all_map]
    exact List.all_eq_true.mpr fun _ _ => rfl
  · rw [inV_S]
    exact q _ (same_new hp)
theorem in_lst' {K : PySem.W.Frag} (neg : Bool) (x : Tx) (ts : List Tx) {H : Hp} {Q : V → Hp → Prop} {p : Addr} (hp : H p = some (.lst (ts.map fun t => .str (S t)))) (q : Q (.bl (if neg then !ts.contains x else ts.contains x)) H) : rIn K neg (.str (S x)) (.ref p) H Q := by
  refine ⟨p, _, rfl, .inl (sq_of hp), rfl, ?_, ?_⟩
  · rw [List.all_map]
    exact List.all_eq_true.mpr fun _ _ => rfl
  · rw [inV_S]
    exact q
theorem inK {X : Cx} {K : PySem.W.Frag} {c : Value → Value → Sem Value} {neg : Bool} (o : OpR X c (rIn X.K neg)) (e : X.K = K) : OpR X c (rIn K neg) := e ▸ o
theorem deepK {X : Cx} {K : PySem.W.Frag} {c : Value → Value → Sem Value} {r : PySem.W.Frag → R2} (o : OpR X c (r X.K)) (e : X.K = K) : OpR X c (r K) := e ▸ o
/-- an if whose ends meet again: M what stands then -/
theorem if_fin {t : TT} {u v : TS} {D : Ends} {σ : L2.St} {H : Hp} (M : L2.St → Hp → Prop) (fin : ∀ σ' H', M σ' H' → D.nx σ' H') (h : ∀ nx' : L2.St → Hp → Prop, (∀ σ' H', M σ' H' → nx' σ' H') → tIfS t u v { D with nx := nx' } σ H) : tIfS t u v D σ H := h D.nx fin
theorem start1_10 {a b c d e f g h i j : Str} {u : V} : L2.start [a, b, c, d, e, f, g, h, i, j] [u] = [some u, none, none, none, none, none, none, none, none, none] := rfl
def tyD : PyData → String
  | .none => "NoneType"
  | .bool _ => "bool"
  | .int _ => "int"
  | .str _ => "str"
  | .list _ => "list"
  | .tuple _ => "tuple"
  | .dict _ => "dict"
theorem ty_seq {K : PySem.W.Frag} {H : Hp} {a : Addr} {xs : List V} (h : SqL K H a xs) : TyX K H (.ref a) (.type "list") := by
  rcases h with (h | ⟨o, h⟩) | ⟨o, its, n, h, c, _⟩
  · exact .base (.lst h)
  · exact .base (.frz h)
  · exact .kList h c
theorem ty_tup {K : PySem.W.Frag} {H : Hp} {a : Addr} {xs : List V} (h : SqT K H a xs) : TyX K H (.ref a) (.type "tuple") := by
  rcases h with (h | ⟨o, h⟩) | ⟨o, its, n, h, c, _⟩
  · exact .base (.tup h)
  · exact .fTuple h
  · exact .kTuple h c
theorem ty_dp {K : PySem.W.Frag} {H : Hp} {v : V} {d : PyData} (h : Dp K H v d) : TyX K H v (.type (tyD d)) := by
  cases h with
  | non => exact .base .non
  | bl b => exact .base (.bl b)
  | int i => exact .base (.int i)
  | str x => exact .base (.str x)
  | lst h _ => exact ty_seq h
  | tup h _ => exact ty_tup h
/-- isinstance of such a value and a built-in class -/
theorem isi {K : PySem.W.Frag} {H : Hp} {v : V} {d : PyData} {n : String} {b : Bool} {Q : VK} (h : Dp K H v d) (e : kitB (tyD d) n = some b) (q : Q (.bl b) H) : rIsi K [v, .ty n] H Q :=
  ⟨v, .ty n, _, _, b, rfl, .ty n, ty_dp h, kit_ty e, q⟩
theorem asc_of {t : Tx} (h : t.all (fun c => decide (c < 128)) = true) : asc t := fun c hc => of_decide_eq_true (List.all_eq_true.mp h c hc)
theorem start3_3 {a b c : Str} {u v x : V} : L2.start [a, b, c] [u, v, x] = [some u, some v, some x] := rfl
theorem start4_4 {a b c d : Str} {u v x y : V} : L2.start [a, b, c, d] [u, v, x, y] = [some u, some v, some x, some y] := rfl
theorem start1_5 {a b c d e : Str} {u : V} : L2.start [a, b, c, d, e] [u] = [some u, none, none, none, none] := rfl
theorem start1_6 {a b c d e f : Str} {u : V} : L2.start [a, b, c, d, e, f] [u] = [some u, none, none, none, none, none] := rfl
theorem start1_7 {a b c d e f g : Str} {u : V} : L2.start [a, b, c, d, e, f, g] [u] = [some u, none, none, none, none, none, none] := rfl
theorem start2_2 {a b : Str} {u v : V} : L2.start [a, b] [u, v] = [some u, some v] := rfl
theorem start2_5 {a b c d e : Str} {u v : V} : L2.start [a, b, c, d, e] [u, v] = [some u, some v, none, none, none] := rfl
theorem ixK_list {X : Cx} {K : PySem.W.Frag} (e : X.K = K) : IxR X (rIxL K) := e ▸ ix_list
theorem ixK_tup {X : Cx} {K : PySem.W.Frag} (e : X.K = K) : IxR X (rIxT K) := e ▸ ix_tup
theorem ixK_seq {X : Cx} {K : PySem.W.Frag} (e : X.K = K) : IxR X (rIx K) := e ▸ ix_seq
theorem slK_list {X : Cx} {K : PySem.W.Frag} (e : X.K = K) : SlR X (rSlL K) := e ▸ sl_list
theorem pt_tint {X : Cx} {a : Expr} {ta : TE} (ha : PE X a ta) (he : ∀ whole, isTrue a X.env whole = (do let v ← whole; standAt a.pos; holding [v] (truthy v))) :
    PT X a (fun σ H Q => ta σ H fun x H' => ∃ i, x = .int i ∧ Q (i != 0) H') := by
  refine ⟨fun pins s σ H Q I h => ?_⟩
  exact isTrue_plain (thn (ha.run pins s σ H _ I h) fun v s1 ⟨x, H1, I1, r1, i, e, q⟩ => tru_ok pins s1 σ H1 x v Q I1 r1 ⟨_, by subst e; exact rfl, q⟩) (he _)
theorem eqvAll_refl : ∀ ds : List PyData, (∀ d ∈ ds, PyData.eqv d d = true) → PyData.eqvAll ds ds = true
  | [], _ => by simp [PyData.eqvAll]
  | d :: r, h => by
    simp only [PyData.eqvAll, Bool.and_eq_true]
    exact ⟨h d List.mem_cons_self, eqvAll_refl r fun e he => h e (List.mem_cons_of_mem _ he)⟩
theorem okD.eqv : ∀ {n : Nat} {d : PyData}, okD n d → PyData.eqv d d = true
  | 0, _, h => h.elim
  | _ + 1, .none, _ => by simp [PyData.eqv]
  | _ + 1, .bool _, _ => by simp [PyData.eqv]
  | _ + 1, .int _, _ => by simp [PyData.eqv]
  | _ + 1, .str _, _ => by simp [PyData.eqv]
  | n + 1, .list ds, h => by
    simp only [PyData.eqv]
    exact eqvAll_refl ds fun d hd => (h.2 d hd).eqv
  | n + 1, .tuple ds, h => by
    simp only [PyData.eqv]
    exact eqvAll_refl ds fun d hd => (h.2 d hd).eqv
  | _ + 1, .dict _, h => h.elim
theorem Bx.weak {b : Addr} {G G' H : Hp} (s : Same G G') (B : Bx b G' H) : Bx b G H := by
  obtain ⟨s0, gb, l, ns, t, gl, r⟩ := B
  exact ⟨s.trans s0, s.free gb, l, ns, t, s.free gl, r⟩
theorem Bx.same {b : Addr} {G H H' : Hp} (B : Bx b G H) (s : Same H H') : Bx b G H' := by
  obtain ⟨s0, gb, l, ns, t, gl, hb, hl, r⟩ := B
  exact ⟨s0.trans s, gb, l, ns, t, gl, s _ _ hb, s _ _ hl, r⟩
theorem start1_11 {a b c d e f g h i j k : Str} {u : V} : L2.start [a, b, c, d, e, f, g, h, i, j, k] [u] = [some u, none, none, none, none, none, none, none, none, none, none] := rfl
/-- one statement, what stands behind it -/
theorem seq_fin {u v : TS} {D : Ends} {σ : L2.St} {H : Hp} (M : L2.St → Hp → Prop) (h1 : ∀ nx' : L2.St → Hp → Prop, (∀ σ' H', M σ' H' → nx' σ' H') → u { D with nx := nx' } σ H) (h2 : ∀ σ' H', M σ' H' → v D σ' H') : tSeq u v D σ H := h1 _ h2
theorem op_strmul {X : Cx} : OpR X (binaryOp .Mult) (fun x y H Q => ∃ (z : Str) (i : Int), x = .str z ∧ y = .int i ∧ z.length ≤ 16 ∧ 0 ≤ i ∧ i ≤ 16 ∧ Q (.str (Txt.mul z i)) H) := by
  intro pins s σ H x y v u Q I rx ry h
  obtain ⟨z, i, rfl, rfl, h1, h2, h3, q⟩ := h
  obtain ⟨t, rfl⟩ := rx
  obtain ⟨t2, rfl⟩ := ry
  refine SB.mul (mulOk_of 16 16 h1 h3 (by omega) (by decide) (by decide)) fun t' k => ⟨.str (Txt.mul z i), H, I.tok _, ⟨_, rfl⟩, q⟩
theorem start2_6 {a b c d e f : Str} {u v : V} : L2.start [a, b, c, d, e, f] [u, v] = [some u, some v, none, none, none, none] := rfl
theorem units1 {k : Nat} {A : Around} (r : Room k A) : A.units + 65 < cLine := by
  have := r.un
  omega
/-- x in t, t a tuple of data -/
def rInT (K : PySem.W.Frag) : R2 := fun x y H Q => ∃ d ds, Dp K H x d ∧ Dp K H y (.tuple ds) ∧ SeqAt.shaped d = true ∧ SeqAt.shaped (.tuple ds) = true ∧ Q (.bl (ds.any fun z => PyData.eqv z d)) H
theorem op_inT {X : Cx} (hu : X.A.units + 65 < cLine) : OpR X (compareOp .In) (rInT X.K) := by
  intro pins s σ H x y v u Q I rx ry ⟨d, ds, hd, he, sd, se, q⟩
  obtain ⟨_, r1⟩ := Dp.reads I d x v hd rx
  obtain ⟨_, r2⟩ := Dp.reads I (.tuple ds) y u he ry
  exact SeqAt.in_tuple_reads r2 r1 (SeqAt.canLay_of_shaped se) (SeqAt.canLay_of_shaped sd) (room_in_shaped sd hu) ⟨.bl _, H, I, rfl, q⟩
theorem isiK {X : Cx} {K : PySem.W.Frag} (e : X.K = K) : CallR X (.builtin "isinstance") (rIsi K) := e ▸ call_isi
/-! ### the draws -/
abbrev s_l_take : Stmt := (top 16)
theorem sc_l_take : FnScope ["_law_box", "_law_many", "_law_number"] ["_law_box", "_law_many"] (defScope s_l_take) := ⟨rfl, rfl, rfl, by decide +kernel, rfl, by decide +kernel, by decide +kernel⟩

def sp_take : Sp := fun vs H Q _ => ∃ (b : Addr) (n : Int) (G : Hp), vs = [.ref b, .int n] ∧ 0 < n ∧ n < 1073741824 ∧ Bx b G H ∧ ∀ (r : Nat) H', (r : Int) < n → Bx b G H' → Q (.int r) H'
theorem ok_take {P : Program} {w : World} {K : PySem.W.Frag} {mg : Str → Option Value} {base : Heap} {f : Addr} {fd : FuncData} (F : FunS K "_law_take" s_l_take f fd) : FnOk P w K mg base CX0 1 f fd ["_law_box", "_law_many"] sp_take := by
  refine F.ok sc_l_take (fun vs H Q E h => ?_) (fun cdv A outer s H vs Q E hr h => ?_)
  · obtain ⟨b, n, G, rfl, _⟩ := h
    rfl
  obtain ⟨b, n, G, rfl, h0, h1, B, k'⟩ := h
  have k : ∀ (r : Int) H', 0 ≤ r → r < n → Bx b G H' → Q (.int r) H' := fun r H' h2 h3 B' => by
    have q := k' r.toNat H' (by omega) B'
    rw [Int.toNat_of_nonneg h2] at q
    exact q
  refine ⟨_, PSs.nox (pss_cons (ps_if (pt_cmpR (op_eqD hr.units) (pe_ix ix_list (pv 0) pe_int (fun _ _ => rfl)) (pe_lst pa_nil) (nomark _))
    (pss_cons (ps_asg (pe_op op_mod (pe_op op_mul (pe_ix ix_list (pv 0) pe_int (fun _ _ => rfl)) pe_int) pe_int) (pg_sub (pv 0) pe_int set_list))
  (pss_one (ps_ret (pe_op op_mod (pe_op op_fdiv (pe_ix ix_list (pv 0) pe_int (fun _ _ => rfl)) pe_int) (pv 1)))))
    pss_nil)
  (pss_cons (ps_set (i := 2) sc_l_take.nd rfl (.inl rfl) (pe_ix ix_list (pe_ix ix_list (pv 0) pe_int (fun _ _ => rfl)) pe_int (fun _ _ => rfl)))
  (pss_cons (ps_asg (pe_op op_fdivN (pv 2) (pv 1)) (pg_sub (pe_ix ix_list (pv 0) pe_int (fun _ _ => rfl)) pe_int set_list))
  (pss_cons (ps_if (PW.pt (pw_or (pt_cmpR op_eq (pe_ix ix_list (pe_ix ix_list (pv 0) pe_int (fun _ _ => rfl)) pe_int (fun _ _ => rfl)) pe_int (nomark _)) (pw_or1 (pt_cmpR op_eq (pe_ix ix_list (pe_ix ix_list (pv 0) pe_int (fun _ _ => rfl)) pe_int (fun _ _ => rfl)) (pe_un un_neg pe_int) (nomark _)))))
    (pss_one (ps_expr (pe_bm PySem.F.plainAttrs_list PySem.F.slot_list_pop PySem.F.type_list_pop mt_popAt (pe_ix ix_list (pv 0) pe_int (fun _ _ => rfl)) (pa_cons pe_int pa_nil))))
    pss_nil)
  (pss_one (ps_ret (pe_op op_mod (pv 2) (pv 1)))))))), ?_⟩
  obtain ⟨sm, gb, l, ns, s, gl, hb, hl, s0, s1⟩ := B
  simp only [tSeq, tAsg, tAnd, tOr, tNot, tTest, tB, tOp, tUn, tCB, tCons, tNil, tVar, tC, gName, rI0, rI, rU, rEq, rNe, rIxS, rIxL, rIxT, tRet, tRetN, tTup, tLst, tSl, tPart, tNoPart, rSlS, tIf, tIfS, tNext, tDrop, tCall, tBM, tBM0, tAndV, tOrV, tNotV, tM0, tM1, gSub, rSetL, sFld, gCons_eq, gNil_eq, tCallS_eq, tDGet, sDPut, tMeth, tMake, tFld, tChain, tIsN, tNotN,
  List.set_cons_zero, List.set_cons_succ, exists_eq_left', exists_eq_left, exists_eq, V.int.injEq, V.str.injEq, V.bl.injEq, V.ref.injEq, List.cons.injEq, and_true, true_and, List.getElem?_cons_zero, List.getElem?_cons_succ, Option.some.injEq, List.append_nil, exists_and_left, cxOf_K, false_and, and_false, exists_false, false_or, or_false, exists_eq', exists_const, sg_eq, S_eq, S_toList, S_ne, tFor_eq, tLc_eq, iList_eq, iTup_eq, iRng1_eq, iStr_eq, decide_eq_true_eq, Bool.not_eq_true', decide_eq_false_iff_not, if_true, if_false, Bool.false_eq_true, reduceCtorEq, Bool.true_eq_false, decide_true, decide_false, start2]
  have nlb : l ≠ b := ne_of hl hb (by
    intro q
    cases ns with
    | nil => cases q
    | cons n r => cases q)
  refine ⟨_, sq_of hb, _, rfl, Nat.zero_le _, ?_⟩
  (intro p np; generalize hqp : upd H p _ = H1; obtain ⟨e1, hp⟩ := al_ np hqp; clear hqp)
  have hb1 := e1 _ _ hb
  have hl1 := e1 _ _ hl
  refine ⟨_, _, .lst (sq_of hl1) (dp_ints ns), .lst (sq_of hp) .nil, shaped_ints ns, rfl, _, rfl, ?_⟩
  rw [eqv_nil]
  cases ns with
  | nil =>
    simp only [List.map_nil, List.isEmpty_nil, if_true]
    refine ⟨_, sq_of hb1, _, rfl, _, rfl, .inl ⟨by omega, by omega⟩, by decide, _, hb1, _, rfl, _, sq_of upd_same, _, rfl, _, rfl, ⟨by decide, by decide⟩, h0, ?_⟩
    refine k _ _ (Int.emod_nonneg _ (by omega)) (Int.emod_lt_of_pos _ h0) ⟨fun a u e => ?_, gb, l, [], _, gl, upd_same, ?_, Int.emod_nonneg _ (by decide), Int.emod_lt_of_pos _ (by decide)⟩
    · rw [upd_ne (ne_of_none e gb)]
      exact e1 _ _ (sm _ _ e)
    · rw [upd_ne nlb]
      exact hl1
  | cons z r =>
    simp only [List.map_cons, List.isEmpty_cons, Bool.false_eq_true, if_false] at hl1 ⊢
    refine ⟨_, sq_of hb1, _, rfl, _, rfl, _, sq_of hl1, _, at0 _ _, _, rfl, ⟨by omega, by omega⟩, ?_⟩
    refine ⟨_, sq_of hb1, _, rfl, _, rfl, _, hl1, _, ix0 _, ?_⟩
    have hb2 : upd H1 l (.lst (V.int (z.fdiv n) :: List.map V.int r)) b = some (.lst [.ref l, .int s]) := by
      rw [upd_ne nlb.symm]
      exact hb1
    have fr : ∀ (xs : List V) a u, G a = some u → upd H1 l (.lst xs) a = some u := fun xs a u e => by
      rw [upd_ne (ne_of_none e gl)]
      exact e1 _ _ (sm _ _ e)
    have fin : ∀ (ms : List Int) (H' : Hp), H' = upd H1 l (.lst (ms.map V.int)) → Q (.int (z % n)) H' := fun ms H' e => by
      subst e
      refine k _ _ (Int.emod_nonneg _ (by omega)) (Int.emod_lt_of_pos _ h0) ⟨fr _, gb, l, ms, s, gl, ?_, upd_same, s0, s1⟩
      rw [upd_ne nlb.symm]
      exact hb1
    refine ⟨_, sq_of hb2, _, rfl, _, rfl, _, sq_of upd_same, _, at0 _ _, rfl, ?_⟩
    simp only [List.set_cons_zero]
    refine ite2 (fun hz => ?_) (fun hz => ?_)
    · refine ⟨_, sq_of hb2, _, rfl, .inl ⟨rfl, _, sq_of upd_same⟩, l, _, 0, 0, _, rfl, rfl, upd_same, by decide, by decide, ?_, rfl, _, rfl, h0, fin r _ ?_⟩
      · simp [seqIndex?]
      · rw [upd_upd]
        rfl
    · refine ⟨_, sq_of hb2, _, rfl, _, rfl, _, sq_of upd_same, _, at0 _ _, rfl, ?_⟩
      refine ite2 (fun hz => ?_) (fun hz => ?_)
      · refine ⟨_, sq_of hb2, _, rfl, .inl ⟨rfl, _, sq_of upd_same⟩, l, _, 0, 0, _, rfl, rfl, upd_same, by decide, by decide, ?_, rfl, _, rfl, h0, fin r _ ?_⟩
        · simp [seqIndex?]
        · rw [upd_upd]
          rfl
      · exact ⟨_, rfl, h0, fin (z.fdiv n :: r) _ rfl⟩
theorem take_ {b : Addr} {n : Int} {G H : Hp} {Q : VK} {E : XK} (B : Bx b G H) (h0 : 0 < n) (h1 : n < 1073741824) (k : ∀ (r : Nat) H', (r : Int) < n → Bx b G H' → Q (.int r) H') : sp_take [.ref b, .int n] H Q E := ⟨b, n, G, rfl, h0, h1, B, k⟩
/-- "..".join(["signs"[take(box, m)] for k in range(n)]): the list of signs -/
theorem signs_draw {n j : Nat} {b : Addr} {G H : Hp} {te : TE} {vs : List Nat} {σ : L2.St} {L : Addr} {Q : VK} (p : Nat → Prop) (hz : n ≤ 1000000) (B : Bx b G H) (hL : H L = none)
    (hw : ∀ x, wipe ((wipe σ vs).set j (some x)) vs = wipe σ vs)
    (hs : ∀ (i : Nat) G' H' (Q' : VK), i < n → Same G G' → Bx b G' H' → (∀ c G2 H2, Same G' G2 → Bx b G2 H2 → p c → Q' (.str (S [c])) H2) → te ((wipe σ vs).set j (some (.int i))) H' Q')
    (hd : ∀ (cs : Tx) G' H', Same G G' → Bx b G' H' → G' L = some (.lst ((cs.map fun c => S [c]).map V.str)) → cs.length = n → (∀ c ∈ cs, p c) → Q (.ref L) H') : CompP (Itr 0 n) (gName j) tYes te vs σ L Q (upd H L (.lst [])) := by
  refine comp_draw (fun v _ => ∃ c, p c ∧ v = .str (S [c])) (fun _ _ _ _ h => h) hz B hL hw (fun i G' H' Q' hi s1 B1 q => hs i G' H' Q' hi s1 B1 fun c G2 H2 s2 B2 pc => q _ G2 H2 s2 B2 ⟨c, pc, rfl⟩) ?_
  intro acc G' H' s1 B1 hl hlen hp
  obtain ⟨cs, e, hc⟩ : ∃ cs : Tx, acc = (cs.map fun c => S [c]).map V.str ∧ ∀ c ∈ cs, p c := by
    clear hl hlen
    induction acc with
    | nil => exact ⟨[], rfl, fun _ h => nomatch h⟩
    | cons v r ih =>
      obtain ⟨cs, e, hc⟩ := ih fun v hv => hp v (List.mem_cons_of_mem _ hv)
      obtain ⟨c, pc, ev⟩ := hp v List.mem_cons_self
      refine ⟨c :: cs, by rw [e, ev]; rfl, fun d hd => ?_⟩
      rcases List.mem_cons.mp hd with h | h
      · rw [h]
        exact pc
      · exact hc d h
  subst e
  exact hd cs G' H' s1 B1 hl (by simpa using hlen) hc
theorem join_signs (cs : Tx) : Txt.join (S []) (cs.map fun c => S [c]) = S cs := by
  have e : (cs.map fun c => S [c]) = (cs.map fun c => [c]).map SX.S := by rw [List.map_map]; rfl
  rw [e]
  refine (SX.join_S [] _).trans (congrArg SX.S ?_)
  have h : ∀ (a : Tx), TL.joinL [] (a.map fun c => [c]) = a := fun a => by
    induction a with
    | nil => rfl
    | cons x r ih =>
      cases r with
      | nil => rfl
      | cons y t =>
        show [x] ++ ([] ++ TL.joinL [] ((y :: t).map fun c => [c])) = x :: y :: t
        rw [ih]
        rfl
  exact h cs
theorem signs_size (cs : Tx) (h : cs.length ≤ 1000000) : ((cs.map fun c => S [c]).map (·.length)).sum + (cs.map fun c => S [c]).length * (S []).length ≤ 16777216 := by
  have e : ((cs.map fun c => S [c]).map (·.length)).sum = cs.length := by
    clear h
    induction cs with
    | nil => rfl
    | cons c r ih =>
      rw [List.map_cons, List.map_cons, List.sum_cons, ih, S_len, List.length_cons]
      simp only [List.length_cons, List.length_nil]
      omega
  rw [e, S_len]
  simp only [List.length_nil, Nat.mul_zero, Nat.add_zero]
  omega
/-! ### words, endings -/
/-- a word's signs: small letters, figures, ' and - -/
def wsign (c : Nat) : Bool := (97 ≤ c && c ≤ 122) || (48 ≤ c && c ≤ 57) || c == 39 || c == 45
def wordOk (t : Tx) : Prop := 1 ≤ t.length ∧ t.length ≤ 16 ∧ ∀ c ∈ t, wsign c = true
theorem wsign_lt {c : Nat} (h : wsign c = true) : c < 128 := by
  simp only [wsign, Bool.or_eq_true, Bool.and_eq_true, decide_eq_true_eq, beq_iff_eq] at h
  omega
def sp_word : Sp := fun vs H Q _ => ∃ (b : Addr) (G : Hp), vs = [.ref b] ∧ Bx b G H ∧ ∀ (t : Tx) H', wordOk t → Bx b G H' → Q (.str (S t)) H'
abbrev s_l_word : Stmt := (top 18)
theorem sc_l_word : FnScope ["_law_box", "_law_some", "_law_many", "_law_k"] ["_law_box"] (defScope s_l_word) := ⟨rfl, rfl, rfl, by decide +kernel, rfl, by decide +kernel, by decide +kernel⟩

section
variable {P : Program} {w : World} {K : PySem.W.Frag} {mg : Str → Option Value} {base : Heap}
theorem ok_word {f : Addr} {fd : FuncData} (F : FunS K "_law_word" s_l_word f fd) (b_len : mg "len" = none) (b_range : mg "range" = none) (c_l_take : Cal P w K mg base CX0 1 "_law_take" sp_take) : FnOk P w K mg base CX0 2 f fd ["_law_box"] sp_word := by
  refine F.ok sc_l_word (fun vs H Q E h => ?_) (fun cdv A outer s H vs Q E hr h => ?_)
  · obtain ⟨b, G, rfl, _⟩ := h
    rfl
  obtain ⟨b, G, rfl, B, k⟩ := h
  refine ⟨_, PSs.nox (pss_cons (ps_set (i := 1) sc_l_word.nd rfl (.inr rfl) (pe_ix ix_list (pe_lst (pa_cons pe_str (pa_cons pe_str (pa_cons pe_str pa_nil)))) (pe_c c_l_take hr (by first | decide | omega) (by rfl) (pa_cons (pv 0) (pa_cons pe_int pa_nil))) (fun _ _ => rfl)))
  (pss_cons (ps_set (i := 2) sc_l_word.nd rfl (.inl rfl) (pe_op op_add pe_int (pe_c c_l_take hr (by first | decide | omega) (by rfl) (pa_cons (pv 0) (pa_cons pe_int pa_nil)))))
  (pss_cons (ps_if (pt_cmpR op_eq (pe_c c_l_take hr (by first | decide | omega) (by rfl) (pa_cons (pv 0) (pa_cons pe_int pa_nil))) pe_int (nomark _))
    (pss_one (ps_set (i := 2) sc_l_word.nd rfl (.inl rfl) (pe_op op_add pe_int (pe_c c_l_take hr (by first | decide | omega) (by rfl) (pa_cons (pv 0) (pa_cons pe_int pa_nil))))))
    pss_nil)
  (pss_one (ps_ret (pe_join pe_str (pe_lc (own := [("_law_k", 3)]) rfl sc_l_word.nd (pi_range1 (by rfl) b_range (pa_cons (pv 2) pa_nil)) (blkOk_by (N := ["_law_box", "_law_some", "_law_many", "_law_k"]) (sc := defScope s_l_word) (own := [("_law_k", 3)]) (by decide +kernel)) (fun _ _ _ _ _ => (pg_name (i := 3) sc_l_word.nd rfl (.inl rfl))) (fun _ _ _ _ _ => pts_nil) (fun _ _ _ _ _ => (pe_ix ix_str (pv 1) (pe_c c_l_take hr (by first | decide | omega) (by rfl) (pa_cons (pv 0) (pa_cons (pe_callB call_len_str (by rfl) b_len PySem.boot_len (pa_cons (pv 1) pa_nil)) pa_nil))) (fun _ _ => rfl)))))))))), ?_⟩
  simp only [tSeq, tAsg, tAnd, tOr, tNot, tTest, tB, tOp, tUn, tCB, tCons, tNil, tVar, tC, gName, rI0, rI, rU, rEq, rNe, rIxS, rIxL, rIxT, tRet, tRetN, tTup, tLst, tSl, tPart, tNoPart, rSlS, tIf, tIfS, tNext, tDrop, tCall, tBM, tBM0, tAndV, tOrV, tNotV, tM0, tM1, gSub, rSetL, sFld, gCons_eq, gNil_eq, tCallS_eq, tDGet, sDPut, tMeth, tMake, tFld, tChain, tIsN, tNotN,
  List.set_cons_zero, List.set_cons_succ, exists_eq_left', exists_eq_left, exists_eq, V.int.injEq, V.str.injEq, V.bl.injEq, V.ref.injEq, List.cons.injEq, and_true, true_and, List.getElem?_cons_zero, List.getElem?_cons_succ, Option.some.injEq, List.append_nil, exists_and_left, cxOf_K, false_and, and_false, exists_false, false_or, or_false, exists_eq', exists_const, sg_eq, S_eq, S_toList, S_ne, tFor_eq, tLc_eq, iList_eq, iTup_eq, iRng1_eq, iStr_eq, decide_eq_true_eq, Bool.not_eq_true', decide_eq_false_iff_not, if_true, if_false, Bool.false_eq_true, reduceCtorEq, Bool.true_eq_false, decide_true, decide_false, lit_97_101_105_111_117_115_116_120_121_122, lit_97_98_99_100_101_102_103_104_105_106_107_108_109_110_111_112_113_114_115_116_117_118_119_120_121_122, lit_97_101_104_110_114_115_119_121_48_49_50_51_52_53_54_55_56_57_39_45, lit_, start1_4]
  refine ⟨(size_le (by simp only [List.length_cons, List.length_nil]; decide)), ?_⟩
  (intro p np; generalize hqp : upd _ p _ = H1; obtain ⟨G1, gp, e1, B1, f1⟩ := alB_ B np hqp; clear hqp np)
  refine take_ B1 (by decide) (by decide) fun r1 H2 hr1 B2 => ?_
  simp only [tSeq, tAsg, tAnd, tOr, tNot, tTest, tB, tOp, tUn, tCB, tCons, tNil, tVar, tC, gName, rI0, rI, rU, rEq, rNe, rIxS, rIxL, rIxT, tRet, tRetN, tTup, tLst, tSl, tPart, tNoPart, rSlS, tIf, tIfS, tNext, tDrop, tCall, tBM, tBM0, tAndV, tOrV, tNotV, tM0, tM1, gSub, rSetL, sFld, gCons_eq, gNil_eq, tCallS_eq, tDGet, sDPut, tMeth, tMake, tFld, tChain, tIsN, tNotN,
  List.set_cons_zero, List.set_cons_succ, exists_eq_left', exists_eq_left, exists_eq, V.int.injEq, V.str.injEq, V.bl.injEq, V.ref.injEq, List.cons.injEq, and_true, true_and, List.getElem?_cons_zero, List.getElem?_cons_succ, Option.some.injEq, List.append_nil, exists_and_left, cxOf_K, false_and, and_false, exists_false, false_or, or_false, exists_eq', exists_const, sg_eq, S_eq, S_toList, S_ne, tFor_eq, tLc_eq, iList_eq, iTup_eq, iRng1_eq, iStr_eq, decide_eq_true_eq, Bool.not_eq_true', decide_eq_false_iff_not, if_true, if_false, Bool.false_eq_true, reduceCtorEq, Bool.true_eq_false, decide_true, decide_false]
  obtain ⟨cs, hcs, hin, hlen⟩ : ∃ cs : Tx, atI [V.str (S [97, 101, 105, 111, 117, 115, 116, 120, 121, 122]), V.str (S [97, 98, 99, 100, 101, 102, 103, 104, 105, 106, 107, 108, 109, 110, 111, 112, 113, 114, 115, 116, 117, 118, 119, 120, 121, 122]), V.str (S [97, 101, 104, 110, 114, 115, 119, 121, 48, 49, 50, 51, 52, 53, 54, 55, 56, 57, 39, 45])] (r1 : Int) = some (.str (S cs)) ∧ (∀ c ∈ cs, wsign c = true) ∧ 0 < cs.length ∧ cs.length < 100 := by
    match r1, hr1 with
    | 0, _ => exact ⟨_, rfl, by decide, by decide, by decide⟩
    | 1, _ => exact ⟨_, rfl, by decide, by decide, by decide⟩
    | 2, _ => exact ⟨_, rfl, by decide, by decide, by decide⟩
    | n + 3, h => exact absurd h (by omega)
  refine ⟨_, sq_of (B2.ex _ _ f1), _, hcs, ?_⟩
  -- the rest, from a number of signs on
  have fin : ∀ (m : Nat) (x : Int) (H3 : Hp), x = (m : Int) → 1 ≤ m → m ≤ 16 → Bx b G1 H3 → -2 ^ 62 ≤ x ∧ x < 2 ^ 62 ∧ ∀ L, H3 L = none →
      CompP (Itr 0 x.toNat) (gName 3) tYes (tOp rIxS (tVar 1) (tCall sp_take [] E0 (tCons (tVar 0) (tCons (tCB (fun xs H Q => ∃ z, xs = [.str z] ∧ z.length ≤ sizeLine ∧ Q (.int z.length) H) (tCons (tVar 1) tNil)) tNil))))
        (List.map (fun x => x.snd) [(Str.ofString "_law_k", 3)]) [some (.ref b), some (.str (S cs)), some (.int x), none] L
        (fun y H2 => ∃ x, y = .ref x ∧ ∃ z : List Str, (SqL K H2 x (z.map V.str) ∨ SqT K H2 x (z.map V.str)) ∧ (z.map (fun x => x.length)).sum + z.length * (S []).length ≤ 16777216 ∧ Q (.str (Txt.join (S []) z)) H2)
        (upd H3 L (.lst [])) := by
    intro m x H3 ex h1 h16 B3
    subst ex
    refine ⟨by omega, by omega, fun L hL => ?_⟩
    rw [Int.toNat_natCast]
    refine signs_draw (fun c => wsign c = true) (by omega) B3 hL (fun _ => rfl) (fun i G' H' Q' _ _ B q => ?_) ?_
    · simp only [wipe, List.map_cons, List.map_nil, List.set_cons_succ, List.set_cons_zero, tSeq, tAsg, tAnd, tOr, tNot, tTest, tB, tOp, tUn, tCB, tCons, tNil, tVar, tC, gName, rI0, rI, rU, rEq, rNe, rIxS, rIxL, rIxT, tRet, tRetN, tTup, tLst, tSl, tPart, tNoPart, rSlS, tIf, tIfS, tNext, tDrop, tCall, tBM, tBM0, tAndV, tOrV, tNotV, tM0, tM1, gSub, rSetL, sFld, gCons_eq, gNil_eq, tCallS_eq, tDGet, sDPut, tMeth, tMake, tFld, tChain, tIsN, tNotN,
  List.set_cons_zero, List.set_cons_succ, exists_eq_left', exists_eq_left, exists_eq, V.int.injEq, V.str.injEq, V.bl.injEq, V.ref.injEq, List.cons.injEq, and_true, true_and, List.getElem?_cons_zero, List.getElem?_cons_succ, Option.some.injEq, List.append_nil, exists_and_left, cxOf_K, false_and, and_false, exists_false, false_or, or_false, exists_eq', exists_const, sg_eq, S_eq, S_toList, S_ne, tFor_eq, tLc_eq, iList_eq, iTup_eq, iRng1_eq, iStr_eq, decide_eq_true_eq, Bool.not_eq_true', decide_eq_false_iff_not, if_true, if_false, Bool.false_eq_true, reduceCtorEq, Bool.true_eq_false, decide_true, decide_false]
      refine ⟨size_le (by rw [S_len]; omega), take_ B (by rw [S_len]; omega) (by rw [S_len]; omega) fun r H4 hr B4 => ?_⟩
      rw [S_len] at hr
      simp only [tSeq, tAsg, tAnd, tOr, tNot, tTest, tB, tOp, tUn, tCB, tCons, tNil, tVar, tC, gName, rI0, rI, rU, rEq, rNe, rIxS, rIxL, rIxT, tRet, tRetN, tTup, tLst, tSl, tPart, tNoPart, rSlS, tIf, tIfS, tNext, tDrop, tCall, tBM, tBM0, tAndV, tOrV, tNotV, tM0, tM1, gSub, rSetL, sFld, gCons_eq, gNil_eq, tCallS_eq, tDGet, sDPut, tMeth, tMake, tFld, tChain, tIsN, tNotN,
  List.set_cons_zero, List.set_cons_succ, exists_eq_left', exists_eq_left, exists_eq, V.int.injEq, V.str.injEq, V.bl.injEq, V.ref.injEq, List.cons.injEq, and_true, true_and, List.getElem?_cons_zero, List.getElem?_cons_succ, Option.some.injEq, List.append_nil, exists_and_left, cxOf_K, false_and, and_false, exists_false, false_or, or_false, exists_eq', exists_const, sg_eq, S_eq, S_toList, S_ne, tFor_eq, tLc_eq, iList_eq, iTup_eq, iRng1_eq, iStr_eq, decide_eq_true_eq, Bool.not_eq_true', decide_eq_false_iff_not, if_true, if_false, Bool.false_eq_true, reduceCtorEq, Bool.true_eq_false, decide_true, decide_false]
      have h3 : r < cs.length := by omega
      exact ⟨size_le (by rw [S_len]; omega), _, atI_nat (List.getElem?_eq_getElem h3), q _ _ _ (Same.refl _) B4 (hin _ (List.getElem_mem _))⟩
    · intro t G' H' s' B' hl ht hp
      refine ⟨L, rfl, _, .inl (sq_of (B'.ex _ _ hl)), signs_size t (by omega), ?_⟩
      rw [join_signs]
      exact k t H' ⟨by omega, by omega, hp⟩ (B'.weak (e1.trans s'))
  refine take_ B2 (by decide) (by decide) fun r2 H3 hr2 B3 => ?_
  simp only [tSeq, tAsg, tAnd, tOr, tNot, tTest, tB, tOp, tUn, tCB, tCons, tNil, tVar, tC, gName, rI0, rI, rU, rEq, rNe, rIxS, rIxL, rIxT, tRet, tRetN, tTup, tLst, tSl, tPart, tNoPart, rSlS, tIf, tIfS, tNext, tDrop, tCall, tBM, tBM0, tAndV, tOrV, tNotV, tM0, tM1, gSub, rSetL, sFld, gCons_eq, gNil_eq, tCallS_eq, tDGet, sDPut, tMeth, tMake, tFld, tChain, tIsN, tNotN,
  List.set_cons_zero, List.set_cons_succ, exists_eq_left', exists_eq_left, exists_eq, V.int.injEq, V.str.injEq, V.bl.injEq, V.ref.injEq, List.cons.injEq, and_true, true_and, List.getElem?_cons_zero, List.getElem?_cons_succ, Option.some.injEq, List.append_nil, exists_and_left, cxOf_K, false_and, and_false, exists_false, false_or, or_false, exists_eq', exists_const, sg_eq, S_eq, S_toList, S_ne, tFor_eq, tLc_eq, iList_eq, iTup_eq, iRng1_eq, iStr_eq, decide_eq_true_eq, Bool.not_eq_true', decide_eq_false_iff_not, if_true, if_false, Bool.false_eq_true, reduceCtorEq, Bool.true_eq_false, decide_true, decide_false]
  refine take_ B3 (by decide) (by decide) fun r3 H4 hr3 B4 => ⟨rfl, ite2 (fun _ => ?_) (fun _ => ?_)⟩
  · refine take_ B4 (by decide) (by decide) fun r4 H5 hr4 B5 => ?_
    simp only [tSeq, tAsg, tAnd, tOr, tNot, tTest, tB, tOp, tUn, tCB, tCons, tNil, tVar, tC, gName, rI0, rI, rU, rEq, rNe, rIxS, rIxL, rIxT, tRet, tRetN, tTup, tLst, tSl, tPart, tNoPart, rSlS, tIf, tIfS, tNext, tDrop, tCall, tBM, tBM0, tAndV, tOrV, tNotV, tM0, tM1, gSub, rSetL, sFld, gCons_eq, gNil_eq, tCallS_eq, tDGet, sDPut, tMeth, tMake, tFld, tChain, tIsN, tNotN,
  List.set_cons_zero, List.set_cons_succ, exists_eq_left', exists_eq_left, exists_eq, V.int.injEq, V.str.injEq, V.bl.injEq, V.ref.injEq, List.cons.injEq, and_true, true_and, List.getElem?_cons_zero, List.getElem?_cons_succ, Option.some.injEq, List.append_nil, exists_and_left, cxOf_K, false_and, and_false, exists_false, false_or, or_false, exists_eq', exists_const, sg_eq, S_eq, S_toList, S_ne, tFor_eq, tLc_eq, iList_eq, iTup_eq, iRng1_eq, iStr_eq, decide_eq_true_eq, Bool.not_eq_true', decide_eq_false_iff_not, if_true, if_false, Bool.false_eq_true, reduceCtorEq, Bool.true_eq_false, decide_true, decide_false]
    exact fin (1 + r4) _ H5 (by omega) (by omega) (by omega) B5
  · exact fin (1 + r2) _ H4 (by omega) (by omega) (by omega) B4
theorem word_ {b : Addr} {G H : Hp} {Q : VK} {E : XK} (B : Bx b G H) (k : ∀ (t : Tx) H', wordOk t → Bx b G H' → Q (.str (S t)) H') : sp_word [.ref b] H Q E := ⟨b, G, rfl, B, k⟩
/-- an ending: a word -/
def sp_ending : Sp := sp_word
abbrev s_l_ending : Stmt := (top 19)
theorem sc_l_ending : FnScope ["_law_box", "_law_some"] ["_law_box"] (defScope s_l_ending) := ⟨rfl, rfl, rfl, by decide +kernel, rfl, by decide +kernel, by decide +kernel⟩

theorem ok_ending {f : Addr} {fd : FuncData} (F : FunS K "_law_ending" s_l_ending f fd) (b_int : mg "int" = none) (c_l_take : Cal P w K mg base CX0 1 "_law_take" sp_take) (c_l_word : Cal P w K mg base CX0 2 "_law_word" sp_word) : FnOk P w K mg base CX0 3 f fd ["_law_box"] sp_ending := by
  refine F.ok sc_l_ending (fun vs H Q E h => ?_) (fun cdv A outer s H vs Q E hr h => ?_)
  · obtain ⟨b, G, rfl, _⟩ := h
    rfl
  obtain ⟨b, G, rfl, B, k⟩ := h
  refine ⟨_, PSs.nox (pss_cons (ps_set (i := 1) sc_l_ending.nd rfl (.inl rfl) (pe_lst (pa_cons pe_str (pa_cons pe_str (pa_cons pe_str (pa_cons pe_str (pa_cons pe_str (pa_cons pe_str (pa_cons pe_str (pa_cons pe_str (pa_cons pe_str (pa_cons pe_str (pa_cons pe_str (pa_cons pe_str pa_nil))))))))))))))
  (pss_one (ps_ret (pe_ix ix_list (pe_lst (pa_cons (pe_ix ix_list (pv 1) (pe_c c_l_take hr (by first | decide | omega) (by rfl) (pa_cons (pv 0) (pa_cons pe_int pa_nil))) (fun _ _ => rfl)) (pa_cons (pe_c c_l_word hr (by first | decide | omega) (by rfl) (pa_cons (pv 0) pa_nil)) pa_nil))) (pe_callTy call_int1 (by rfl) b_int (by decide +kernel) (pa_cons (pe_cmpR op_eq (pe_c c_l_take hr (by first | decide | omega) (by rfl) (pa_cons (pv 0) (pa_cons pe_int pa_nil))) pe_int (nomark _)) pa_nil)) (fun _ _ => rfl))))), ?_⟩
  simp only [tSeq, tAsg, tAnd, tOr, tNot, tTest, tB, tOp, tUn, tCB, tCons, tNil, tVar, tC, gName, rI0, rI, rU, rEq, rNe, rIxS, rIxL, rIxT, tRet, tRetN, tTup, tLst, tSl, tPart, tNoPart, rSlS, tIf, tIfS, tNext, tDrop, tCall, tBM, tBM0, tAndV, tOrV, tNotV, tM0, tM1, gSub, rSetL, sFld, gCons_eq, gNil_eq, tCallS_eq, tDGet, sDPut, tMeth, tMake, tFld, tChain, tIsN, tNotN,
  List.set_cons_zero, List.set_cons_succ, exists_eq_left', exists_eq_left, exists_eq, V.int.injEq, V.str.injEq, V.bl.injEq, V.ref.injEq, List.cons.injEq, and_true, true_and, List.getElem?_cons_zero, List.getElem?_cons_succ, Option.some.injEq, List.append_nil, exists_and_left, cxOf_K, false_and, and_false, exists_false, false_or, or_false, exists_eq', exists_const, sg_eq, S_eq, S_toList, S_ne, tFor_eq, tLc_eq, iList_eq, iTup_eq, iRng1_eq, iStr_eq, decide_eq_true_eq, Bool.not_eq_true', decide_eq_false_iff_not, if_true, if_false, Bool.false_eq_true, reduceCtorEq, Bool.true_eq_false, decide_true, decide_false, lit_115, lit_105_110_103, lit_101_100, lit_108_121, lit_101_114, lit_101_115_116, lit_97_98_108_101, lit_121, lit_110_101_115_115, lit_45_108_105_107_101, lit_39_115, lit_105_115_104, start1_2]
  refine ⟨(size_le (by simp only [List.length_cons, List.length_nil]; decide)), ?_⟩
  (intro p np; generalize hqp : upd _ p _ = H1; obtain ⟨G1, gp, e1, B1, f1⟩ := alB_ B np hqp; clear hqp np)
  refine take_ B1 (by decide) (by decide) fun r1 H2 hr1 B2 => ?_
  simp only [tSeq, tAsg, tAnd, tOr, tNot, tTest, tB, tOp, tUn, tCB, tCons, tNil, tVar, tC, gName, rI0, rI, rU, rEq, rNe, rIxS, rIxL, rIxT, tRet, tRetN, tTup, tLst, tSl, tPart, tNoPart, rSlS, tIf, tIfS, tNext, tDrop, tCall, tBM, tBM0, tAndV, tOrV, tNotV, tM0, tM1, gSub, rSetL, sFld, gCons_eq, gNil_eq, tCallS_eq, tDGet, sDPut, tMeth, tMake, tFld, tChain, tIsN, tNotN,
  List.set_cons_zero, List.set_cons_succ, exists_eq_left', exists_eq_left, exists_eq, V.int.injEq, V.str.injEq, V.bl.injEq, V.ref.injEq, List.cons.injEq, and_true, true_and, List.getElem?_cons_zero, List.getElem?_cons_succ, Option.some.injEq, List.append_nil, exists_and_left, cxOf_K, false_and, and_false, exists_false, false_or, or_false, exists_eq', exists_const, sg_eq, S_eq, S_toList, S_ne, tFor_eq, tLc_eq, iList_eq, iTup_eq, iRng1_eq, iStr_eq, decide_eq_true_eq, Bool.not_eq_true', decide_eq_false_iff_not, if_true, if_false, Bool.false_eq_true, reduceCtorEq, Bool.true_eq_false, decide_true, decide_false]
  obtain ⟨t, ht, hok⟩ : ∃ t : Tx, atI [V.str (S [115]), V.str (S [105, 110, 103]), V.str (S [101, 100]), V.str (S [108, 121]), V.str (S [101, 114]), V.str (S [101, 115, 116]), V.str (S [97, 98, 108, 101]), V.str (S [121]), V.str (S [110, 101, 115, 115]), V.str (S [45, 108, 105, 107, 101]), V.str (S [39, 115]), V.str (S [105, 115, 104])] (r1 : Int) = some (.str (S t)) ∧ wordOk t := by
    match r1, hr1 with
    | 0, _ => exact ⟨_, rfl, by decide, by decide, by decide⟩
    | 1, _ => exact ⟨_, rfl, by decide, by decide, by decide⟩
    | 2, _ => exact ⟨_, rfl, by decide, by decide, by decide⟩
    | 3, _ => exact ⟨_, rfl, by decide, by decide, by decide⟩
    | 4, _ => exact ⟨_, rfl, by decide, by decide, by decide⟩
    | 5, _ => exact ⟨_, rfl, by decide, by decide, by decide⟩
    | 6, _ => exact ⟨_, rfl, by decide, by decide, by decide⟩
    | 7, _ => exact ⟨_, rfl, by decide, by decide, by decide⟩
    | 8, _ => exact ⟨_, rfl, by decide, by decide, by decide⟩
    | 9, _ => exact ⟨_, rfl, by decide, by decide, by decide⟩
    | 10, _ => exact ⟨_, rfl, by decide, by decide, by decide⟩
    | 11, _ => exact ⟨_, rfl, by decide, by decide, by decide⟩
    | n + 12, h => exact absurd h (by omega)
  refine ⟨_, sq_of (B2.ex _ _ f1), _, ht, ?_⟩
  refine word_ B2 fun t2 H3 hok2 B3 => ?_
  refine ⟨(size_le (by simp only [List.length_cons, List.length_nil]; decide)), ?_⟩
  (intro p2 np2; generalize hqp2 : upd _ p2 _ = H4; obtain ⟨G4, gp2, e4, B4, f4⟩ := alB_ B3 np2 hqp2; clear hqp2 np2)
  refine take_ B4 (by decide) (by decide) fun r5 H5 hr5 B5 => ⟨rfl, ?_⟩
  simp only [tSeq, tAsg, tAnd, tOr, tNot, tTest, tB, tOp, tUn, tCB, tCons, tNil, tVar, tC, gName, rI0, rI, rU, rEq, rNe, rIxS, rIxL, rIxT, tRet, tRetN, tTup, tLst, tSl, tPart, tNoPart, rSlS, tIf, tIfS, tNext, tDrop, tCall, tBM, tBM0, tAndV, tOrV, tNotV, tM0, tM1, gSub, rSetL, sFld, gCons_eq, gNil_eq, tCallS_eq, tDGet, sDPut, tMeth, tMake, tFld, tChain, tIsN, tNotN,
  List.set_cons_zero, List.set_cons_succ, exists_eq_left', exists_eq_left, exists_eq, V.int.injEq, V.str.injEq, V.bl.injEq, V.ref.injEq, List.cons.injEq, and_true, true_and, List.getElem?_cons_zero, List.getElem?_cons_succ, Option.some.injEq, List.append_nil, exists_and_left, cxOf_K, false_and, and_false, exists_false, false_or, or_false, exists_eq', exists_const, sg_eq, S_eq, S_toList, S_ne, tFor_eq, tLc_eq, iList_eq, iTup_eq, iRng1_eq, iStr_eq, decide_eq_true_eq, Bool.not_eq_true', decide_eq_false_iff_not, if_true, if_false, Bool.false_eq_true, reduceCtorEq, Bool.true_eq_false, decide_true, decide_false]
  refine ⟨_, sq_of (B5.ex _ _ f4), ?_⟩
  have kk : ∀ t, wordOk t → Q (.str (S t)) H5 := fun t h => k t H5 h (B5.weak (e1.trans e4))
  by_cases h : (r5 : Int) = 1
  · rw [if_pos h]
    exact ⟨_, rfl, kk t2 hok2⟩
  · rw [if_neg h]
    exact ⟨_, rfl, kk t hok⟩
theorem ending_ {b : Addr} {G H : Hp} {Q : VK} {E : XK} (B : Bx b G H) (k : ∀ (t : Tx) H', wordOk t → Bx b G H' → Q (.str (S t)) H') : sp_ending [.ref b] H Q E := ⟨b, G, rfl, B, k⟩
end
/-! ### classes -/
abbrev FunM (K : PySem.W.Frag) (m qual : Str) (st : Stmt) (f : Addr) (fd : FuncData) : Prop := FunD K m qual (defArgs st) (defBody st) (defScope st) [] [] f fd
structure Met (P : Program) (w : World) (K : PySem.W.Frag) (mg : Str → Option Value) (base : Heap) (CX : CXT) (k : Nat) (C : Addr) (m : Str) (sp : Sp) : Prop where
  ex : ∃ (f : Addr) (fd : FuncData) (ps : List Str), Cls K C ∧ Meth K C m f ∧ FnOk P w K mg base CX k f fd ps sp ∧ Binds K fd ps []
structure Mak (P : Program) (w : World) (K : PySem.W.Frag) (mg : Str → Option Value) (base : Heap) (CX : CXT) (k : Nat) (x : Str) (C : Addr) (sp : Sp) : Prop where
  ex : ∃ (f : Addr) (fd : FuncData) (ps : List Str), Mk K C f ∧ FnOk P w K mg base CX k f fd ps sp ∧ mg x = some (.ref C) ∧ Binds K fd ps []
section
variable {X : Cx} {k j : Nat} {C : Addr} {x m : Str} {sp : Sp} {p pos apos : Pos} {e o : Expr} {es : List Expr} {ta : TE} {t : TA}
theorem pe_mk (c : Mak X.prog X.w X.K X.mg X.base CX0 k x C sp) (hr : Room j X.A) (hk : k + 1 ≤ j) (hg : Gl X x) (ha : PA X (e :: es) t)
    (hdb : (x == ("__debug__" : Str)) = false := by decide) (he : starEach (e :: es) X.env = (false, eval e X.env) :: starEach es X.env := by rfl) (hpl : (backTo pos (starEach es X.env)).any (·.1) = false := by rfl) :
    PE X (.Call (.Name x p) (e :: es) [] pos) (tMake C sp [] E0 t) := by
  obtain ⟨f, fd, ps, M, F, hm, b⟩ := c.ex
  exact pe_make M F (hr.mono hk) hg hm b .nil pass0 ha hdb he hpl
theorem pe_mk0 (c : Mak X.prog X.w X.K X.mg X.base CX0 k x C sp) (hr : Room j X.A) (hk : k + 1 ≤ j) (hg : Gl X x) (hdb : (x == ("__debug__" : Str)) = false := by decide) :
    PE X (.Call (.Name x p) [] [] pos) (tMake C sp [] E0 tNil) := by
  obtain ⟨f, fd, ps, M, F, hm, b⟩ := c.ex
  exact pe_make0 M F (hr.mono hk) hg hm b .nil pass0 hdb
theorem pe_mt {pl : Sem Bool} (c : Met X.prog X.w X.K X.mg X.base CX0 k C m sp) (hr : Room j X.A) (hk : k ≤ j) (he : PE X o ta) (ha : PA X (e :: es) t)
    (hst : starEach (e :: es) X.env = (false, eval e X.env) :: starEach es X.env := by rfl) (hpl : (backTo pos (starEach es X.env)).any (·.1) = false := by rfl)
    (ht : eval (.Call (.Attribute o m apos) (e :: es) [] pos) X.env = (do
      let ov ← eval o X.env
      standAt apos.atName
      let (f, first) ← holding [ov] (getMethod ov m pl)
      callWith pos f first (backTo pos (starEach (e :: es) X.env)) (backToKw pos (keywordEach [] X.env))) := by rfl) :
    PE X (.Call (.Attribute o m apos) (e :: es) [] pos) (tMeth C m sp [] E0 ta t) := by
  obtain ⟨f, fd, ps, hc, hm, F, b⟩ := c.ex
  exact pe_meth (pl := pl) he hc hm F (hr.mono hk) b .nil pass0 ha hst hpl ht
theorem pe_mt0 {pl : Sem Bool} (c : Met X.prog X.w X.K X.mg X.base CX0 k C m sp) (hr : Room j X.A) (hk : k ≤ j) (he : PE X o ta)
    (ht : eval (.Call (.Attribute o m apos) [] [] pos) X.env = (do
      let ov ← eval o X.env
      standAt apos.atName
      let (f, first) ← holding [ov] (getMethod ov m pl)
      callWith pos f first (backTo pos (starEach [] X.env)) (backToKw pos (keywordEach [] X.env))) := by rfl) :
    PE X (.Call (.Attribute o m apos) [] [] pos) (tMeth C m sp [] E0 ta tNil) := by
  obtain ⟨f, fd, ps, hc, hm, F, b⟩ := c.ex
  exact pe_meth0 (pl := pl) he hc hm F (hr.mono hk) b .nil pass0 ht
end
/-- an object of one's own: o at p, G all that was known ahead of it -/
def Ob (p : Addr) (o : HO) (G H : Hp) : Prop := Same G H ∧ G p = none ∧ H p = some o
theorem Ob.at {p : Addr} {o : HO} {G H : Hp} (h : Ob p o G H) : H p = some o := h.2.2
theorem Ob.put {p : Addr} {o o' : HO} {G H : Hp} (h : Ob p o G H) : Ob p o' G (upd H p o') := ⟨same_mut h.1 h.2.1, h.2.1, upd_same⟩
theorem Ob.same {p : Addr} {o : HO} {G H H' : Hp} (h : Ob p o G H) (s : Same H H') : Ob p o G H' := ⟨h.1.trans s, h.2.1, s _ _ h.2.2⟩
theorem Ob.weak {p : Addr} {o : HO} {G G' H : Hp} (s : Same G G') (h : Ob p o G' H) : Ob p o G H := ⟨s.trans h.1, s.free h.2.1, h.2.2⟩
theorem upd_upd {H : Hp} {p : Addr} {a b : HO} : upd (upd H p a) p b = upd H p b := by
  funext x
  by_cases h : x = p
  · subst h
    rw [upd_same, upd_same]
  · rw [upd_ne h, upd_ne h, upd_ne h]
theorem fld_iff {K : PySem.W.Frag} {H : Hp} {p C dx : Addr} {fs : List (Str × V)} {f : Str} {v : V} {Q : V → Prop} (hp : H p = some (.ins C dx fs)) (c : Cls K C) (n : NoAttr K C f) (l : fs.lookup f = some v) :
    (∃ C' dx' fs', H p = some (.ins C' dx' fs') ∧ Cls K C' ∧ NoAttr K C' f ∧ ∃ v', fs'.lookup f = some v' ∧ Q v') ↔ Q v := by
  constructor
  · rintro ⟨C', dx', fs', h, _, _, v', h2, q⟩
    rw [hp] at h
    cases h
    rw [l] at h2
    cases h2
    exact q
  · exact fun q => ⟨C, dx, fs, hp, c, n, v, l, q⟩
theorem fput_iff {K : PySem.W.Frag} {H : Hp} {p C dx : Addr} {fs : List (Str × V)} {f : Str} {R : Addr → Addr → List (Str × V) → Prop} (hp : H p = some (.ins C dx fs)) (c : Cls K C) (n : NoAttr K C f) (l : fs.length < 1000) :
    (∃ C' dx' fs', H p = some (.ins C' dx' fs') ∧ Cls K C' ∧ NoAttr K C' f ∧ fs'.length < 1000 ∧ R C' dx' fs') ↔ R C dx fs := by
  constructor
  · rintro ⟨C', dx', fs', h, _, _, _, q⟩
    rw [hp] at h
    cases h
    exact q
  · exact fun q => ⟨C, dx, fs, hp, c, n, l, q⟩
theorem meth_iff {H : Hp} {p C dx : Addr} {fs : List (Str × V)} {m : Str} {R : Prop} (hp : H p = some (.ins C dx fs)) (l : fs.lookup m = none) :
    (∃ dx' fs', H p = some (.ins C dx' fs') ∧ fs'.lookup m = none ∧ R) ↔ R := by
  constructor
  · rintro ⟨dx', fs', h, _, q⟩
    exact q
  · exact fun q => ⟨dx, fs, hp, l, q⟩
theorem kV_inj {a b : Key} (h : kV a = kV b) : a = b := by
  cases a <;> cases b <;> simp_all [kV]
theorem dget_iff {H : Hp} {q : Addr} {kvs : List (Key × V)} {k : Str} {v : V} {Q : V → Prop} (hp : H q = some (.dK kvs)) (l : valV kvs (.inr k) = some v) :
    (∃ v', DGet H q (.str k) (some v') ∧ Q v') ↔ Q v := by
  constructor
  · rintro ⟨v', h, qq⟩
    rcases h with ⟨kvs', k', h, ek, e⟩ | ⟨kvs', k', b, h, _⟩
    · have ek2 : k' = .inr k := kV_inj (ek.symm : kV k' = kV (.inr k))
      subst ek2
      rcases h with h | ⟨o, h⟩
      · rw [hp] at h
        cases h
        rw [l] at e
        cases e
        exact qq
      · rw [hp] at h
        cases h
    · rcases h with h | ⟨o, h⟩
      · rw [hp] at h
        cases h
      · rw [hp] at h
        cases h
  · exact fun qq => ⟨v, .inl ⟨kvs, .inr k, .inl hp, rfl, l.symm⟩, qq⟩
theorem dput_iff {H : Hp} {q : Addr} {kvs : List (Key × V)} {k : Str} {v : V} {R : Hp → Prop} (hp : H q = some (.dK kvs)) (l : kvs.length < sizeLine) :
    (∃ H', DPut H q (.str k) v H' ∧ R H') ↔ R (upd H q (.dK (putK kvs (.inr k) v))) := by
  constructor
  · rintro ⟨H', h, r⟩
    rcases h with ⟨kvs', k', h, ek, _, e⟩ | ⟨kvs', k', b, h, _⟩
    · have ek2 : k' = .inr k := kV_inj (ek.symm : kV k' = kV (.inr k))
      subst ek2
      rw [hp] at h
      cases h
      rw [e] at r
      exact r
    · rw [hp] at h
      cases h
  · exact fun r => ⟨_, .inl ⟨kvs, .inr k, hp, rfl, l, rfl⟩, r⟩
theorem dps_cons {K : PySem.W.Frag} {H : Hp} {xs : List V} {d : PyData} {ds : List PyData} (h : DpAll K H xs (d :: ds)) : ∃ v r, xs = v :: r ∧ Dp K H v d ∧ DpAll K H r ds := by
  cases h with
  | cons h1 h2 => exact ⟨_, _, rfl, h1, h2⟩
theorem dps_nil {K : PySem.W.Frag} {H : Hp} {xs : List V} (h : DpAll K H xs []) : xs = [] := by
  cases h
  rfl
theorem dps_str {K : PySem.W.Frag} {H : Hp} {xs : List V} {t : Str} {ds : List PyData} (h : DpAll K H xs (.str t :: ds)) : ∃ r, xs = .str t :: r ∧ DpAll K H r ds := by
  obtain ⟨v, r, e, h1, h2⟩ := dps_cons h
  rw [dp_str h1] at e
  exact ⟨r, e, h2⟩
theorem dps_bl {K : PySem.W.Frag} {H : Hp} {xs : List V} {t : Bool} {ds : List PyData} (h : DpAll K H xs (.bool t :: ds)) : ∃ r, xs = .bl t :: r ∧ DpAll K H r ds := by
  obtain ⟨v, r, e, h1, h2⟩ := dps_cons h
  rw [dp_bl h1] at e
  exact ⟨r, e, h2⟩
theorem sqt_of {K : PySem.W.Frag} {H G : Hp} {q : Addr} {xs : List V} (h : SqT K G q xs) (s : Same G H) : SqT K H q xs := same_t s h
theorem dp1 {K : PySem.W.Frag} {H : Hp} {v : V} {a : Str} (h : Dp K H v (.tuple [.str a])) : ∃ q, v = .ref q ∧ SqT K H q [.str a] := by
  obtain ⟨q, xs, e, hq, hx⟩ := dp_tup h
  obtain ⟨r, e1, hx⟩ := dps_str hx
  rw [e1, dps_nil hx] at hq
  exact ⟨q, e, hq⟩
theorem dp2 {K : PySem.W.Frag} {H : Hp} {v : V} {a b : Str} (h : Dp K H v (.tuple [.str a, .str b])) : ∃ q, v = .ref q ∧ SqT K H q [.str a, .str b] := by
  obtain ⟨q, xs, e, hq, hx⟩ := dp_tup h
  obtain ⟨r, e1, hx⟩ := dps_str hx
  obtain ⟨r2, e2, hx⟩ := dps_str hx
  rw [e1, e2, dps_nil hx] at hq
  exact ⟨q, e, hq⟩
theorem dp4 {K : PySem.W.Frag} {H : Hp} {v : V} {a b : Str} {c d : Bool} (h : Dp K H v (.tuple [.str a, .str b, .bool c, .bool d])) : ∃ q, v = .ref q ∧ SqT K H q [.str a, .str b, .bl c, .bl d] := by
  obtain ⟨q, xs, e, hq, hx⟩ := dp_tup h
  obtain ⟨r, e1, hx⟩ := dps_str hx
  obtain ⟨r2, e2, hx⟩ := dps_str hx
  obtain ⟨r3, e3, hx⟩ := dps_bl hx
  obtain ⟨r4, e4, hx⟩ := dps_bl hx
  rw [e1, e2, e3, e4, dps_nil hx] at hq
  exact ⟨q, e, hq⟩
/-! ### actions -/
inductive Act where
  | word (t : Tx)
  | glue (t : Tx)
  | join (t : Tx) (l r : Bool)
  | stop (c : Nat)
  | great
  | all
  | last
  | back
  | again
abbrev wWord : Tx := [119, 111, 114, 100]
abbrev wGlue : Tx := [103, 108, 117, 101]
abbrev wJoin : Tx := [106, 111, 105, 110]
abbrev wStop : Tx := [115, 116, 111, 112]
abbrev wGreat : Tx := [103, 114, 101, 97, 116]
abbrev wAll : Tx := [97, 108, 108]
abbrev wLast : Tx := [108, 97, 115, 116]
abbrev wBack : Tx := [98, 97, 99, 107]
abbrev wAgain : Tx := [97, 103, 97, 105, 110]
def dS (t : Tx) : PyData := .str (S t)
def actD : Act → PyData
  | .word t => .tuple [dS wWord, dS t]
  | .glue t => .tuple [dS wGlue, dS t]
  | .join t l r => .tuple [dS wJoin, dS t, .bool l, .bool r]
  | .stop c => .tuple [dS wStop, dS [c]]
  | .great => .tuple [dS wGreat]
  | .all => .tuple [dS wAll]
  | .last => .tuple [dS wLast]
  | .back => .tuple [dS wBack]
  | .again => .tuple [dS wAgain]
def entD (e : List Act) : PyData := .tuple (e.map actD)
def stopC (c : Nat) : Prop := c ∈ [46, 63, 33, 44, 58, 59]
/-- what an action that is drawn keeps -/
def actOk : Act → Prop
  | .word t => wordOk t
  | .glue t => wordOk t
  | .join t l r => (wordOk t ∧ (l = true ∨ r = true)) ∨ (t = [] ∧ l = true ∧ r = true)
  | .stop c => stopC c
  | _ => True
theorem wordOk.asc {t : Tx} (h : wordOk t) : asc t := fun c hc => wsign_lt (h.2.2 c hc)
theorem act_noL (a : Act) : noL (actD a) = true := by cases a <;> rfl
theorem ents_noL : ∀ e : List Act, noLs (e.map actD) = true
  | [] => rfl
  | a :: r => by
    simp only [List.map_cons, noLs, act_noL, ents_noL r, Bool.and_self]
theorem ent_noL (e : List Act) : noL (entD e) = true := ents_noL e
theorem stopC_lt {c : Nat} (h : stopC c) : c < 128 := by
  simp only [stopC, List.mem_cons, List.not_mem_nil, or_false] at h
  omega
theorem dS_ok {n : Nat} {t : Tx} (h : asc t) : okD (n + 1) (dS t) := asc_ok h
theorem act_ok {a : Act} (h : actOk a) : okD 3 (actD a) := by
  have tw : ∀ {x t : Tx}, asc x → asc t → okD 3 (.tuple [dS x, dS t]) := fun hx ht => ⟨(by simp only [List.length_cons, List.length_nil]; decide), fun d hd => by
    simp only [List.mem_cons, List.not_mem_nil, or_false] at hd
    rcases hd with rfl | rfl
    · exact dS_ok hx
    · exact dS_ok ht⟩
  have on : ∀ {x : Tx}, asc x → okD 3 (.tuple [dS x]) := fun hx => ⟨(by simp only [List.length_cons, List.length_nil]; decide), fun d hd => by
    simp only [List.mem_cons, List.not_mem_nil, or_false] at hd
    rw [hd]
    exact dS_ok hx⟩
  cases a with
  | word t => exact tw (asc_of rfl) (wordOk.asc h)
  | glue t => exact tw (asc_of rfl) (wordOk.asc h)
  | stop c => exact tw (asc_of rfl) (fun x hx => by rw [List.mem_singleton.mp hx]; exact stopC_lt h)
  | join t l r =>
    have ht : asc t := by
      rcases h with h | ⟨rfl, _⟩
      · exact h.1.asc
      · exact fun c hc => nomatch hc
    refine ⟨(by simp only [List.length_cons, List.length_nil]; decide), fun d hd => ?_⟩
    simp only [List.mem_cons, List.not_mem_nil, or_false] at hd
    rcases hd with rfl | rfl | rfl | rfl
    · exact dS_ok (asc_of rfl)
    · exact dS_ok ht
    · trivial
    · trivial
  | great => exact on (asc_of rfl)
  | all => exact on (asc_of rfl)
  | last => exact on (asc_of rfl)
  | back => exact on (asc_of rfl)
  | again => exact on (asc_of rfl)
theorem ent_ok {e : List Act} (hl : e.length ≤ 1000) (h : ∀ a ∈ e, actOk a) : okD 4 (entD e) := ⟨by rw [List.length_map]; omega, fun d hd => by
  obtain ⟨a, ha, rfl⟩ := List.mem_map.mp hd
  exact act_ok (h a ha)⟩
/-- a draw of an action (no back, no again) -/
def plainA : Act → Prop
  | .back => False
  | .again => False
  | _ => True
def sp_action (K : PySem.W.Frag) : Sp := fun vs H Q _ => ∃ (b : Addr) (G : Hp), vs = [.ref b] ∧ Bx b G H ∧ ∀ (v : V) (a : Act) G' H', actOk a → plainA a → Same G G' → Bx b G' H' → Dp K G' v (actD a) → Q v H'
abbrev s_l_action : Stmt := (top 20)
theorem sc_l_action : FnScope ["_law_box", "_law_kind"] ["_law_box"] (defScope s_l_action) := ⟨rfl, rfl, rfl, by decide +kernel, rfl, by decide +kernel, by decide +kernel⟩

section
variable {P : Program} {w : World} {K : PySem.W.Frag} {mg : Str → Option Value} {base : Heap}
theorem ok_action {f : Addr} {fd : FuncData} (F : FunS K "_law_action" s_l_action f fd) (c_l_take : Cal P w K mg base CX0 1 "_law_take" sp_take) (c_l_word : Cal P w K mg base CX0 2 "_law_word" sp_word) (c_l_ending : Cal P w K mg base CX0 3 "_law_ending" sp_ending) : FnOk P w K mg base CX0 4 f fd ["_law_box"] (sp_action K) := by
  refine F.ok sc_l_action (fun vs H Q E h => ?_) (fun cdv A outer s H vs Q E hr h => ?_)
  · obtain ⟨b, G, rfl, _⟩ := h
    rfl
  obtain ⟨b, G, rfl, B, k⟩ := h
  refine ⟨_, PSs.nox (pss_cons (ps_set (i := 1) sc_l_action.nd rfl (.inl rfl) (pe_c c_l_take hr (by first | decide | omega) (by rfl) (pa_cons (pv 0) (pa_cons pe_int pa_nil))))
  (pss_cons (ps_if (pt_cmpR op_lt (pv 1) pe_int (nomark _))
    (pss_one (ps_ret (pe_tup (pa_cons pe_str (pa_cons (pe_c c_l_word hr (by first | decide | omega) (by rfl) (pa_cons (pv 0) pa_nil)) pa_nil)))))
    pss_nil)
  (pss_cons (ps_if (pt_cmpR op_eq (pv 1) pe_int (nomark _))
    (pss_one (ps_ret (pe_tup (pa_cons pe_str (pa_cons (pe_c c_l_word hr (by first | decide | omega) (by rfl) (pa_cons (pv 0) pa_nil)) pa_nil)))))
    pss_nil)
  (pss_cons (ps_if (pt_cmpR op_lt (pv 1) pe_int (nomark _))
    (pss_one (ps_ret (pe_tup (pa_cons pe_str (pa_cons (pe_c c_l_ending hr (by first | decide | omega) (by rfl) (pa_cons (pv 0) pa_nil)) (pa_cons pe_bl (pa_cons (pe_cmpR op_eq (pv 1) pe_int (nomark _)) pa_nil)))))))
    pss_nil)
  (pss_cons (ps_if (pt_cmpR op_eq (pv 1) pe_int (nomark _))
    (pss_one (ps_ret (pe_tup (pa_cons pe_str (pa_cons (pe_c c_l_word hr (by first | decide | omega) (by rfl) (pa_cons (pv 0) pa_nil)) (pa_cons pe_bl (pa_cons pe_bl pa_nil)))))))
    pss_nil)
  (pss_cons (ps_if (pt_cmpR op_eq (pv 1) pe_int (nomark _))
    (pss_one (ps_ret (pe_tup (pa_cons pe_str (pa_cons pe_str (pa_cons pe_bl (pa_cons pe_bl pa_nil)))))))
    pss_nil)
  (pss_cons (ps_if (pt_cmpR op_eq (pv 1) pe_int (nomark _))
    (pss_one (ps_ret (pe_tup (pa_cons pe_str (pa_cons (pe_ix ix_str pe_str (pe_c c_l_take hr (by first | decide | omega) (by rfl) (pa_cons (pv 0) (pa_cons pe_int pa_nil))) (fun _ _ => rfl)) pa_nil)))))
    pss_nil)
  (pss_one (ps_ret (pe_ix ix_list (pe_lst (pa_cons (pe_tup (pa_cons pe_str pa_nil)) (pa_cons (pe_tup (pa_cons pe_str pa_nil)) (pa_cons (pe_tup (pa_cons pe_str pa_nil)) pa_nil)))) (pe_c c_l_take hr (by first | decide | omega) (by rfl) (pa_cons (pv 0) (pa_cons pe_int pa_nil))) (fun _ _ => rfl))))))))))), ?_⟩
  simp only [tSeq, tAsg, tAnd, tOr, tNot, tTest, tB, tOp, tUn, tCB, tCons, tNil, tVar, tC, gName, rI0, rI, rU, rEq, rNe, rIxS, rIxL, rIxT, tRet, tRetN, tTup, tLst, tSl, tPart, tNoPart, rSlS, tIf, tIfS, tNext, tDrop, tCall, tBM, tBM0, tAndV, tOrV, tNotV, tM0, tM1, gSub, rSetL, sFld, gCons_eq, gNil_eq, tCallS_eq, tDGet, sDPut, tMeth, tMake, tFld, tChain, tIsN, tNotN,
  List.set_cons_zero, List.set_cons_succ, exists_eq_left', exists_eq_left, exists_eq, V.int.injEq, V.str.injEq, V.bl.injEq, V.ref.injEq, List.cons.injEq, and_true, true_and, List.getElem?_cons_zero, List.getElem?_cons_succ, Option.some.injEq, List.append_nil, exists_and_left, cxOf_K, false_and, and_false, exists_false, false_or, or_false, exists_eq', exists_const, sg_eq, S_eq, S_toList, S_ne, tFor_eq, tLc_eq, iList_eq, iTup_eq, iRng1_eq, iStr_eq, decide_eq_true_eq, Bool.not_eq_true', decide_eq_false_iff_not, if_true, if_false, Bool.false_eq_true, reduceCtorEq, Bool.true_eq_false, decide_true, decide_false, lit_119_111_114_100, lit_103_108_117_101, lit_106_111_105_110, lit_, lit_115_116_111_112, lit_46_63_33_44_58_59, lit_103_114_101_97_116, lit_97_108_108, lit_108_97_115_116, start1_2]
  refine take_ B (by decide) (by decide) fun r H1 hr1 B1 => ?_
  simp only [tSeq, tAsg, tAnd, tOr, tNot, tTest, tB, tOp, tUn, tCB, tCons, tNil, tVar, tC, gName, rI0, rI, rU, rEq, rNe, rIxS, rIxL, rIxT, tRet, tRetN, tTup, tLst, tSl, tPart, tNoPart, rSlS, tIf, tIfS, tNext, tDrop, tCall, tBM, tBM0, tAndV, tOrV, tNotV, tM0, tM1, gSub, rSetL, sFld, gCons_eq, gNil_eq, tCallS_eq, tDGet, sDPut, tMeth, tMake, tFld, tChain, tIsN, tNotN,
  List.set_cons_zero, List.set_cons_succ, exists_eq_left', exists_eq_left, exists_eq, V.int.injEq, V.str.injEq, V.bl.injEq, V.ref.injEq, List.cons.injEq, and_true, true_and, List.getElem?_cons_zero, List.getElem?_cons_succ, Option.some.injEq, List.append_nil, exists_and_left, cxOf_K, false_and, and_false, exists_false, false_or, or_false, exists_eq', exists_const, sg_eq, S_eq, S_toList, S_ne, tFor_eq, tLc_eq, iList_eq, iTup_eq, iRng1_eq, iStr_eq, decide_eq_true_eq, Bool.not_eq_true', decide_eq_false_iff_not, if_true, if_false, Bool.false_eq_true, reduceCtorEq, Bool.true_eq_false, decide_true, decide_false]
  refine ite2 (fun _ => ?_) fun h1 => ⟨rfl, ite2 (fun _ => ?_) fun h2 => ite2 (fun _ => ?_) fun h3 => ⟨rfl, ite2 (fun _ => ?_) fun h4 => ⟨rfl, ite2 (fun _ => ?_) fun h5 => ⟨rfl, ite2 (fun _ => ?_) fun h6 => ?_⟩⟩⟩⟩
  · refine word_ B1 fun t H2 ht B2 => ⟨(size_le (by simp only [List.length_cons, List.length_nil]; decide)), ?_⟩
    (intro p np; generalize hqp : upd _ p _ = H3; obtain ⟨G3, gp, e3, B3, f3⟩ := alB_ B2 np hqp; clear hqp np)
    exact k _ (.word t) G3 H3 ht trivial e3 B3 (.tup (st_of f3) (dp_strs [S wWord, S t]))
  · refine word_ B1 fun t H2 ht B2 => ⟨(size_le (by simp only [List.length_cons, List.length_nil]; decide)), ?_⟩
    (intro p np; generalize hqp : upd _ p _ = H3; obtain ⟨G3, gp, e3, B3, f3⟩ := alB_ B2 np hqp; clear hqp np)
    exact k _ (.glue t) G3 H3 ht trivial e3 B3 (.tup (st_of f3) (dp_strs [S wGlue, S t]))
  · refine ending_ B1 fun t H2 ht B2 => ⟨rfl, (size_le (by simp only [List.length_cons, List.length_nil]; decide)), ?_⟩
    (intro p np; generalize hqp : upd _ p _ = H3; obtain ⟨G3, gp, e3, B3, f3⟩ := alB_ B2 np hqp; clear hqp np)
    exact k _ (.join t true _) G3 H3 (.inl ⟨ht, .inl rfl⟩) trivial e3 B3 (.tup (st_of f3) (.cons (.str _) (.cons (.str _) (.cons (.bl true) (.cons (.bl _) .nil)))))
  · refine word_ B1 fun t H2 ht B2 => ⟨(size_le (by simp only [List.length_cons, List.length_nil]; decide)), ?_⟩
    (intro p np; generalize hqp : upd _ p _ = H3; obtain ⟨G3, gp, e3, B3, f3⟩ := alB_ B2 np hqp; clear hqp np)
    exact k _ (.join t false true) G3 H3 (.inl ⟨ht, .inr rfl⟩) trivial e3 B3 (.tup (st_of f3) (.cons (.str _) (.cons (.str _) (.cons (.bl false) (.cons (.bl true) .nil)))))
  · refine ⟨(size_le (by simp only [List.length_cons, List.length_nil]; decide)), ?_⟩
    (intro p np; generalize hqp : upd _ p _ = H3; obtain ⟨G3, gp, e3, B3, f3⟩ := alB_ B1 np hqp; clear hqp np)
    exact k _ (.join [] true true) G3 H3 (.inr ⟨rfl, rfl, rfl⟩) trivial e3 B3 (.tup (st_of f3) (.cons (.str _) (.cons (.str _) (.cons (.bl true) (.cons (.bl true) .nil)))))
  · refine take_ B1 (by decide) (by decide) fun r6 H2 hr6 B2 => ?_
    simp only [tSeq, tAsg, tAnd, tOr, tNot, tTest, tB, tOp, tUn, tCB, tCons, tNil, tVar, tC, gName, rI0, rI, rU, rEq, rNe, rIxS, rIxL, rIxT, tRet, tRetN, tTup, tLst, tSl, tPart, tNoPart, rSlS, tIf, tIfS, tNext, tDrop, tCall, tBM, tBM0, tAndV, tOrV, tNotV, tM0, tM1, gSub, rSetL, sFld, gCons_eq, gNil_eq, tCallS_eq, tDGet, sDPut, tMeth, tMake, tFld, tChain, tIsN, tNotN,
  List.set_cons_zero, List.set_cons_succ, exists_eq_left', exists_eq_left, exists_eq, V.int.injEq, V.str.injEq, V.bl.injEq, V.ref.injEq, List.cons.injEq, and_true, true_and, List.getElem?_cons_zero, List.getElem?_cons_succ, Option.some.injEq, List.append_nil, exists_and_left, cxOf_K, false_and, and_false, exists_false, false_or, or_false, exists_eq', exists_const, sg_eq, S_eq, S_toList, S_ne, tFor_eq, tLc_eq, iList_eq, iTup_eq, iRng1_eq, iStr_eq, decide_eq_true_eq, Bool.not_eq_true', decide_eq_false_iff_not, if_true, if_false, Bool.false_eq_true, reduceCtorEq, Bool.true_eq_false, decide_true, decide_false]
    have hl : r6 < [46, 63, 33, 44, 58, 59].length := by
      have : r6 < 6 := by omega
      exact this
    refine ⟨(size_le (by (try simp only [S_len, List.length_append, List.length_cons, List.length_nil]); omega)), _, atI_nat (List.getElem?_eq_getElem hl), (size_le (by simp only [List.length_cons, List.length_nil]; decide)), ?_⟩
    (intro p np; generalize hqp : upd _ p _ = H3; obtain ⟨G3, gp, e3, B3, f3⟩ := alB_ B2 np hqp; clear hqp np)
    exact k _ (.stop [46, 63, 33, 44, 58, 59][r6]) G3 H3 (List.getElem_mem _) trivial e3 B3 (.tup (st_of f3) (dp_strs [S wStop, S [_]]))
  · refine ⟨(size_le (by simp only [List.length_cons, List.length_nil]; decide)), ?_⟩
    (intro p1 np1; generalize hqp1 : upd _ p1 _ = H2; obtain ⟨G2, gp1, e2, B2, f2⟩ := alB_ B1 np1 hqp1; clear hqp1 np1)
    refine ⟨(size_le (by simp only [List.length_cons, List.length_nil]; decide)), ?_⟩
    (intro p2 np2; generalize hqp2 : upd _ p2 _ = H3; obtain ⟨G3, gp2, e3, B3, f3⟩ := alB_ B2 np2 hqp2; clear hqp2 np2)
    refine ⟨(size_le (by simp only [List.length_cons, List.length_nil]; decide)), ?_⟩
    (intro p3 np3; generalize hqp3 : upd _ p3 _ = H4; obtain ⟨G4, gp3, e4, B4, f4⟩ := alB_ B3 np3 hqp3; clear hqp3 np3)
    refine ⟨(size_le (by simp only [List.length_cons, List.length_nil]; decide)), ?_⟩
    (intro p4 np4; generalize hqp4 : upd _ p4 _ = H5; obtain ⟨G5, gp4, e5, B5, f5⟩ := alB_ B4 np4 hqp4; clear hqp4 np4)
    refine take_ B5 (by decide) (by decide) fun r3 H6 hr3 B6 => ?_
    simp only [tSeq, tAsg, tAnd, tOr, tNot, tTest, tB, tOp, tUn, tCB, tCons, tNil, tVar, tC, gName, rI0, rI, rU, rEq, rNe, rIxS, rIxL, rIxT, tRet, tRetN, tTup, tLst, tSl, tPart, tNoPart, rSlS, tIf, tIfS, tNext, tDrop, tCall, tBM, tBM0, tAndV, tOrV, tNotV, tM0, tM1, gSub, rSetL, sFld, gCons_eq, gNil_eq, tCallS_eq, tDGet, sDPut, tMeth, tMake, tFld, tChain, tIsN, tNotN,
  List.set_cons_zero, List.set_cons_succ, exists_eq_left', exists_eq_left, exists_eq, V.int.injEq, V.str.injEq, V.bl.injEq, V.ref.injEq, List.cons.injEq, and_true, true_and, List.getElem?_cons_zero, List.getElem?_cons_succ, Option.some.injEq, List.append_nil, exists_and_left, cxOf_K, false_and, and_false, exists_false, false_or, or_false, exists_eq', exists_const, sg_eq, S_eq, S_toList, S_ne, tFor_eq, tLc_eq, iList_eq, iTup_eq, iRng1_eq, iStr_eq, decide_eq_true_eq, Bool.not_eq_true', decide_eq_false_iff_not, if_true, if_false, Bool.false_eq_true, reduceCtorEq, Bool.true_eq_false, decide_true, decide_false]
    refine ⟨_, sq_of (B6.ex _ _ f5), ?_⟩
    match r3, hr3 with
    | 0, _ => exact ⟨_, rfl, k _ .great G5 H6 trivial trivial (((e2.trans e3).trans e4).trans e5) B6 (.tup (st_of (e5 _ _ (e4 _ _ (e3 _ _ f2)))) (dp_strs [S wGreat]))⟩
    | 1, _ => exact ⟨_, rfl, k _ .all G5 H6 trivial trivial (((e2.trans e3).trans e4).trans e5) B6 (.tup (st_of (e5 _ _ (e4 _ _ f3))) (dp_strs [S wAll]))⟩
    | 2, _ => exact ⟨_, rfl, k _ .last G5 H6 trivial trivial (((e2.trans e3).trans e4).trans e5) B6 (.tup (st_of (e5 _ _ f4)) (dp_strs [S wLast]))⟩
    | n + 3, h => exact absurd h (by omega)
theorem action_ {b : Addr} {G H : Hp} {Q : VK} {E : XK} (B : Bx b G H) (k : ∀ (v : V) (a : Act) G' H', actOk a → plainA a → Same G G' → Bx b G' H' → Dp K G' v (actD a) → Q v H') : sp_action K [.ref b] H Q E := ⟨b, G, rfl, B, k⟩
def sp_entry (K : PySem.W.Frag) : Sp := fun vs H Q _ => ∃ (b : Addr) (G : Hp), vs = [.ref b] ∧ Bx b G H ∧ ∀ (v : V) (e : List Act) G' H', 1 ≤ e.length → e.length ≤ 4 → (∀ a ∈ e, actOk a ∧ plainA a) → Same G G' → Bx b G' H' → Dp K G' v (entD e) → Q v H'
abbrev s_l_entry : Stmt := (top 21)
theorem sc_l_entry : FnScope ["_law_box", "_law_many", "_law_k"] ["_law_box"] (defScope s_l_entry) := ⟨rfl, rfl, rfl, by decide +kernel, rfl, by decide +kernel, by decide +kernel⟩

theorem ok_entry {f : Addr} {fd : FuncData} (F : FunS K "_law_entry" s_l_entry f fd) (b_range : mg "range" = none) (b_tuple : mg "tuple" = none) (c_l_take : Cal P w K mg base CX0 1 "_law_take" sp_take) (c_l_action : Cal P w K mg base CX0 4 "_law_action" (sp_action K)) : FnOk P w K mg base CX0 5 f fd ["_law_box"] (sp_entry K) := by
  refine F.ok sc_l_entry (fun vs H Q E h => ?_) (fun cdv A outer s H vs Q E hr h => ?_)
  · obtain ⟨b, G, rfl, _⟩ := h
    rfl
  obtain ⟨b, G, rfl, B, k⟩ := h
  refine ⟨_, PSs.nox (pss_cons (ps_set (i := 1) sc_l_entry.nd rfl (.inl rfl) pe_int)
  (pss_cons (ps_if (pt_cmpR op_eq (pe_c c_l_take hr (by first | decide | omega) (by rfl) (pa_cons (pv 0) (pa_cons pe_int pa_nil))) pe_int (nomark _))
    (pss_one (ps_set (i := 1) sc_l_entry.nd rfl (.inl rfl) (pe_op op_add pe_int (pe_c c_l_take hr (by first | decide | omega) (by rfl) (pa_cons (pv 0) (pa_cons pe_int pa_nil))))))
    pss_nil)
  (pss_one (ps_ret (pe_callTy call_tuple_of (by rfl) b_tuple (by decide +kernel) (pa_cons (pe_lc (own := [("_law_k", 2)]) rfl sc_l_entry.nd (pi_range1 (by rfl) b_range (pa_cons (pv 1) pa_nil)) (blkOk_by (N := ["_law_box", "_law_many", "_law_k"]) (sc := defScope s_l_entry) (own := [("_law_k", 2)]) (by decide +kernel)) (fun _ _ _ _ _ => (pg_name (i := 2) sc_l_entry.nd rfl (.inl rfl))) (fun _ _ _ _ _ => pts_nil) (fun _ _ _ _ _ => (pe_c c_l_action hr (by first | decide | omega) (by rfl) (pa_cons (pv 0) pa_nil)))) pa_nil)))))), ?_⟩
  simp only [tSeq, tAsg, tAnd, tOr, tNot, tTest, tB, tOp, tUn, tCB, tCons, tNil, tVar, tC, gName, rI0, rI, rU, rEq, rNe, rIxS, rIxL, rIxT, tRet, tRetN, tTup, tLst, tSl, tPart, tNoPart, rSlS, tIf, tIfS, tNext, tDrop, tCall, tBM, tBM0, tAndV, tOrV, tNotV, tM0, tM1, gSub, rSetL, sFld, gCons_eq, gNil_eq, tCallS_eq, tDGet, sDPut, tMeth, tMake, tFld, tChain, tIsN, tNotN,
  List.set_cons_zero, List.set_cons_succ, exists_eq_left', exists_eq_left, exists_eq, V.int.injEq, V.str.injEq, V.bl.injEq, V.ref.injEq, List.cons.injEq, and_true, true_and, List.getElem?_cons_zero, List.getElem?_cons_succ, Option.some.injEq, List.append_nil, exists_and_left, cxOf_K, false_and, and_false, exists_false, false_or, or_false, exists_eq', exists_const, sg_eq, S_eq, S_toList, S_ne, tFor_eq, tLc_eq, iList_eq, iTup_eq, iRng1_eq, iStr_eq, decide_eq_true_eq, Bool.not_eq_true', decide_eq_false_iff_not, if_true, if_false, Bool.false_eq_true, reduceCtorEq, Bool.true_eq_false, decide_true, decide_false, true_and, start1_3]
  refine take_ B (by decide) (by decide) fun r H1 hr1 B1 => ⟨rfl, ?_⟩
  -- from a number of actions on
  have fin : ∀ (m : Nat) (x : Int) (H3 : Hp), x = (m : Int) → 1 ≤ m → m ≤ 4 → Bx b G H3 → ∀ Q', (∀ (L : Addr) (e : List Act) G' H', e.length = m → (∀ a ∈ e, actOk a ∧ plainA a) → Same G G' → Bx b G' H' → (∃ vs, G' L = some (.lst vs) ∧ DpAll K G' vs (e.map actD)) → Q' (.ref L) H') →
      ∀ L, H3 L = none → CompP (Itr 0 x.toNat) (gName 2) tYes (tCall (sp_action K) [] E0 (tCons (tVar 0) tNil)) (List.map (fun x => x.snd) [(Str.ofString "_law_k", 2)]) [some (.ref b), some (.int x), none] L Q' (upd H3 L (.lst [])) := by
    intro m x H3 ex h1 h4 B3 Q' q L hL
    subst ex
    rw [Int.toNat_natCast]
    refine comp_draw (fun v G' => ∃ a, actOk a ∧ plainA a ∧ Dp K G' v (actD a)) (fun v G' G2 kt ⟨a, h1, h2, h3⟩ => ⟨a, h1, h2, Dp.kt kt (act_noL a) h3⟩) (by omega) B3 hL (fun _ => rfl) (fun i G' H' Q2 _ _ B2 q2 => ?_) (fun acc G' H' s' B2 hl hlen hp => ?_)
    · simp only [wipe, List.map_cons, List.map_nil, List.set_cons_succ, List.set_cons_zero, tSeq, tAsg, tAnd, tOr, tNot, tTest, tB, tOp, tUn, tCB, tCons, tNil, tVar, tC, gName, rI0, rI, rU, rEq, rNe, rIxS, rIxL, rIxT, tRet, tRetN, tTup, tLst, tSl, tPart, tNoPart, rSlS, tIf, tIfS, tNext, tDrop, tCall, tBM, tBM0, tAndV, tOrV, tNotV, tM0, tM1, gSub, rSetL, sFld, gCons_eq, gNil_eq, tCallS_eq, tDGet, sDPut, tMeth, tMake, tFld, tChain, tIsN, tNotN,
  List.set_cons_zero, List.set_cons_succ, exists_eq_left', exists_eq_left, exists_eq, V.int.injEq, V.str.injEq, V.bl.injEq, V.ref.injEq, List.cons.injEq, and_true, true_and, List.getElem?_cons_zero, List.getElem?_cons_succ, Option.some.injEq, List.append_nil, exists_and_left, cxOf_K, false_and, and_false, exists_false, false_or, or_false, exists_eq', exists_const, sg_eq, S_eq, S_toList, S_ne, tFor_eq, tLc_eq, iList_eq, iTup_eq, iRng1_eq, iStr_eq, decide_eq_true_eq, Bool.not_eq_true', decide_eq_false_iff_not, if_true, if_false, Bool.false_eq_true, reduceCtorEq, Bool.true_eq_false, decide_true, decide_false]
      exact action_ B2 fun v a G2 H2 h1 h2 s2 B2 d => q2 _ G2 H2 s2 B2 ⟨a, h1, h2, d⟩
    · obtain ⟨e, he, hd, hk⟩ : ∃ e : List Act, e.length = acc.length ∧ DpAll K G' acc (e.map actD) ∧ ∀ a ∈ e, actOk a ∧ plainA a := by
        clear hl hlen q
        induction acc with
        | nil => exact ⟨[], rfl, .nil, fun _ h => nomatch h⟩
        | cons v r ih =>
          obtain ⟨e, h1, h2, h3⟩ := ih fun v hv => hp v (List.mem_cons_of_mem _ hv)
          obtain ⟨a, ha, hb, hc⟩ := hp v List.mem_cons_self
          refine ⟨a :: e, by rw [List.length_cons, List.length_cons, h1], .cons hc h2, fun x hx => ?_⟩
          rcases List.mem_cons.mp hx with h | h
          · rw [h]
            exact ⟨ha, hb⟩
          · exact h3 x h
      exact q L e G' H' (he.trans hlen) hk s' B2 ⟨acc, hl, hd⟩
  have out : ∀ (m : Nat), 1 ≤ m → m ≤ 4 → ∀ (L : Addr) (e : List Act) G' H', e.length = m → (∀ a ∈ e, actOk a ∧ plainA a) → Same G G' → Bx b G' H' → (∃ vs, G' L = some (.lst vs) ∧ DpAll K G' vs (e.map actD)) →
      ∃ p x, V.ref L = V.ref p ∧ ((SqL K H' p x ∧ ∀ l, H' l = none → Q (.ref l) (upd H' l (.tup x))) ∨ SqT K H' p x ∧ Q (.ref p) H') := by
    intro m h1 h4 L e G' H' he hk s' B' hv
    obtain ⟨vs, hl, hd⟩ := hv
    refine ⟨L, vs, rfl, .inl ⟨sq_of (B'.ex _ _ hl), fun l nl => ?_⟩⟩
    have nl' := nl
    generalize hq : upd H' l _ = H2
    obtain ⟨G2, gl, e2, B2, f2⟩ := alB_ B' nl hq
    exact k _ e G2 H2 (by omega) (by omega) hk (s'.trans e2) B2 (.tup (st_of f2) (DpAll.ext e2 hd))
  refine ite2 (fun _ => ?_) (fun _ => ⟨by decide, by decide, fun L hL => ?_⟩)
  · refine take_ B1 (by decide) (by decide) fun r2 H2 hr2 B2 => ?_
    simp only [tSeq, tAsg, tAnd, tOr, tNot, tTest, tB, tOp, tUn, tCB, tCons, tNil, tVar, tC, gName, rI0, rI, rU, rEq, rNe, rIxS, rIxL, rIxT, tRet, tRetN, tTup, tLst, tSl, tPart, tNoPart, rSlS, tIf, tIfS, tNext, tDrop, tCall, tBM, tBM0, tAndV, tOrV, tNotV, tM0, tM1, gSub, rSetL, sFld, gCons_eq, gNil_eq, tCallS_eq, tDGet, sDPut, tMeth, tMake, tFld, tChain, tIsN, tNotN,
  List.set_cons_zero, List.set_cons_succ, exists_eq_left', exists_eq_left, exists_eq, V.int.injEq, V.str.injEq, V.bl.injEq, V.ref.injEq, List.cons.injEq, and_true, true_and, List.getElem?_cons_zero, List.getElem?_cons_succ, Option.some.injEq, List.append_nil, exists_and_left, cxOf_K, false_and, and_false, exists_false, false_or, or_false, exists_eq', exists_const, sg_eq, S_eq, S_toList, S_ne, tFor_eq, tLc_eq, iList_eq, iTup_eq, iRng1_eq, iStr_eq, decide_eq_true_eq, Bool.not_eq_true', decide_eq_false_iff_not, if_true, if_false, Bool.false_eq_true, reduceCtorEq, Bool.true_eq_false, decide_true, decide_false]
    refine ⟨by omega, by omega, fun L hL => ?_⟩
    exact fin (1 + r2) _ H2 (by omega) (by omega) (by omega) B2 _ (fun L e G' H' he hk s' B' hv => by
      obtain ⟨p, x, h1, h2⟩ := out (1 + r2) (by omega) (by omega) L e G' H' he hk s' B' hv
      exact ⟨p, h1, x, h2⟩) L hL
  · exact fin 1 _ H1 rfl (by omega) (by omega) B1 _ (fun L e G' H' he hk s' B' hv => by
      obtain ⟨p, x, h1, h2⟩ := out 1 (by omega) (by omega) L e G' H' he hk s' B' hv
      exact ⟨p, h1, x, h2⟩) L hL
theorem entry_ {b : Addr} {G H : Hp} {Q : VK} {E : XK} (B : Bx b G H) (k : ∀ (v : V) (e : List Act) G' H', 1 ≤ e.length → e.length ≤ 4 → (∀ a ∈ e, actOk a ∧ plainA a) → Same G G' → Bx b G' H' → Dp K G' v (entD e) → Q v H') : sp_entry K [.ref b] H Q E := ⟨b, G, rfl, B, k⟩
end
/-! ### the written table BARE -/
abbrev bareK : List (Tx × Tx) := [([123, 45, 124, 125], wGreat), ([123, 60, 125], wAll), ([123, 42, 45, 124, 125], wLast), ([123, 98, 97, 99, 107, 125], wBack), ([123, 97, 103, 97, 105, 110, 125], wAgain)]
def entOk (K : PySem.W.Frag) (e : DictEntry) (p : Tx × Tx) : Prop := ∃ a, (∃ t, e.key = .str (S p.1) t) ∧ e.val = .ref a ∧ ∀ H, SqT K H a [.str (S p.2)]
def tupNm (K : PySem.W.Frag) (a : Addr) (nm : Str) : Bool := match K.lookup a with
  | some ⟨.type c, _, .seq its _, _⟩ => decide (c = "tuple") && (match its.toList with
    | [.str y _] => decide (y = nm)
    | _ => false)
  | _ => false
theorem tupNm_ok {K : PySem.W.Frag} {a : Addr} {nm : Str} (h : tupNm K a nm = true) (H : Hp) : SqT K H a [.str nm] := by
  unfold tupNm at h
  split at h
  · rename_i c od its n sl q
    obtain ⟨h1, h2⟩ := He.ba h
    split at h2
    · rename_i y t q2
      have e2 : y = nm := of_decide_eq_true h2
      subst e2
      refine .inr ⟨_, its, n, q, congrArg Value.type (of_decide_eq_true h1), rfl, ?_, ?_⟩
      · rw [← Array.length_toList, q2]
        exact (by decide : 1 ≤ sizeLine)
      · rw [q2]
        exact .cons ⟨t, rfl⟩ .nil
    · cases h2
  · cases h
def entB (K : PySem.W.Frag) (e : DictEntry) (p : Tx × Tx) : Bool := match e.key with
  | .str x _ => decide (x = S p.1) && (match e.val with
    | .ref a => tupNm K a (S p.2)
    | _ => false)
  | _ => false
theorem entB_ok {K : PySem.W.Frag} {e : DictEntry} {p : Tx × Tx} (h : entB K e p = true) : entOk K e p := by
  unfold entB at h
  split at h
  · rename_i x t q
    obtain ⟨h1, h2⟩ := He.ba h
    split at h2
    · rename_i a q2
      exact ⟨a, ⟨t, by rw [q, of_decide_eq_true h1]⟩, q2, tupNm_ok h2⟩
    · cases h2
  · cases h
def bareB (K : PySem.W.Frag) : Bool := match K.lookup (He.ga K "BARE") with
  | some ⟨_, _, .dict es _, _⟩ => decide (es.toList.length = bareK.length) && (es.toList.zip bareK).all fun q => entB K q.1 q.2
  | _ => false
/-- the table, its entries -/
structure BareF (K : PySem.W.Frag) (w : World) (es : Array DictEntry) (n : Nat) : Prop where
  d : KDict K w (He.ga K "BARE") es n
  l : es.toList.length = bareK.length
  e : ∀ q ∈ es.toList.zip bareK, entOk K q.1 q.2
theorem bareB_ok {K : PySem.W.Frag} {w : World} {es : Array DictEntry} {n : Nat} (d : KDict K w (He.ga K "BARE") es n) (h : bareB K = true) : BareF K w es n := by
  unfold bareB at h
  rw [d.at_] at h
  obtain ⟨h1, h2⟩ := He.ba h
  exact ⟨d, of_decide_eq_true h1, fun q hq => entB_ok (List.all_eq_true.mp h2 q hq)⟩
theorem BareF.get {K : PySem.W.Frag} {w : World} {es : Array DictEntry} {n : Nat} (B : BareF K w es n) {i : Nat} (hi : i < es.toList.length) (hi2 : i < bareK.length) : entOk K es.toList[i] bareK[i] := by
  refine B.e (es.toList[i], bareK[i]) ?_
  have : (es.toList.zip bareK)[i]? = some (es.toList[i], bareK[i]) := by
    rw [List.getElem?_zip_eq_some]
    exact ⟨List.getElem?_eq_getElem hi, List.getElem?_eq_getElem hi2⟩
  exact List.mem_of_getElem? this
/-- a bare action's name, by its text -/
def bareN (t : Tx) : Option Tx := (bareK.find? fun p => p.1 == t).map (·.2)
theorem find_zip {K : PySem.W.Frag} {t : Tx} : ∀ {l : List DictEntry} {m : List (Tx × Tx)}, l.length = m.length → (∀ q ∈ l.zip m, entOk K q.1 q.2) →
    (∃ e, l.find? (fun e => e.key.isStr (S t)) = some e ∧ ∃ p, m.find? (fun p => p.1 == t) = some p ∧ entOk K e p) ∨ (l.find? (fun e => e.key.isStr (S t)) = none ∧ m.find? (fun p => p.1 == t) = none)
  | [], [], _, _ => .inr ⟨rfl, rfl⟩
  | [], _ :: _, h, _ => absurd h (by simp)
  | _ :: _, [], h, _ => absurd h (by simp)
  | e :: l, p :: m, h, he => by
    have h0 := he (e, p) List.mem_cons_self
    obtain ⟨a, ⟨tk, hk⟩, _, _⟩ := id h0
    have ek : e.key.isStr (S t) = (p.1 == t) := by
      rw [hk]
      show (S p.1 == S t) = _
      rw [SX.S_beq]
    cases hc : p.1 == t with
    | true =>
      rw [hc] at ek
      exact .inl ⟨e, by rw [List.find?_cons, ek], p, by rw [List.find?_cons, hc], h0⟩
    | false =>
      rw [hc] at ek
      rw [List.find?_cons, ek, List.find?_cons, hc]
      exact find_zip (by simpa using h) fun q hq => he q (List.mem_cons_of_mem _ hq)
theorem BareF.ns {K : PySem.W.Frag} {w : World} {es : Array DictEntry} {n : Nat} (B : BareF K w es n) (t : Tx) :
    ∃ r, PySem.W.nsIn K (He.ga K "BARE") (S t) = some r ∧ r.isSome = (bareN t).isSome ∧ ∀ nm, bareN t = some nm → ∃ a, r = some (.ref a) ∧ ∀ H, SqT K H a [.str (S nm)] := by
  unfold PySem.W.nsIn
  rw [B.d.at_]
  rcases find_zip (t := t) B.l B.e with ⟨e, h1, p, h2, h3⟩ | ⟨h1, h2⟩
  · obtain ⟨a, hk, hv, hs⟩ := h3
    refine ⟨some e.val, ?_, ?_, ?_⟩
    · dsimp only
      rw [h1]
    · rw [bareN, h2]
      rfl
    · intro nm hn
      rw [bareN, h2] at hn
      cases hn
      exact ⟨a, by rw [hv], hs⟩
  · refine ⟨none, ?_, ?_, ?_⟩
    · dsimp only
      rw [h1]
      dsimp only
      rw [if_neg]
      intro z
      obtain ⟨e, he, hr⟩ := List.any_eq_true.mp z
      obtain ⟨x, tk, hk, _⟩ := PySem.W.KeysLit.all B.d.lit e he
      unfold DictEntry.refKey at hr
      rw [hk] at hr
      cases hr
    · rw [bareN, h2]
      rfl
    · intro nm hn
      rw [bareN, h2] at hn
      cases hn
/-! ### for k, v in D.items(), D a written table -/
def Itw (kvs : List (Str × V)) : It :=
  ⟨fun i _ => i < kvs.length, fun i H x H' => ∃ T k v, kvs[i]? = some (k, v) ∧ x = .ref T ∧ H T = none ∧ H' = upd H T (.tup [.str k, v]), fun i _ => kvs.length ≤ i⟩
section
variable {P : Program} {w : World} {K : PySem.W.Frag} {d : Addr} {es : Array DictEntry} {ep : Nat} {kvs : List (Str × V)}
theorem turn_itemsW {elts : List Expr} {kk : Nat} {tpos : Pos} (it : Addr) (D : K.lookup d = some ⟨.type "dict", none, .dict es ep, #[]⟩) (hl : es.size = kvs.length) (hp : ∀ i (h : i < es.size) k v, kvs[i]? = some (k, v) → RelV (.str k) es[i].key ∧ RelV v es[i].val) :
    Turn P w K (.Tuple elts kk tpos) (Itw kvs) [it] it (fun i h => ∃ ok ov, IsItemIter h it d i es.size ep ok ov) where
  mem := by simp
  obj := fun i h st b hb => by
    have e : b = it := by simpa using hb
    subst e
    obtain ⟨ok, ov, e⟩ := st
    exact ⟨_, e, fun v z => nomatch z⟩
  keep := fun i h h' st k => let ⟨ok, ov, e⟩ := st; ⟨ok, ov, k it (by simp) _ e⟩
  item := by
    intro X hP hw hK hc i pins s σ H E I hf st hi
    subst hP hw hK
    have hm : s.heap.DictRaw d es ep := ⟨_, I.kIn _ _ D, ⟨rfl, rfl, rfl⟩, rfl⟩
    obtain ⟨⟨k, v⟩, hkv⟩ : ∃ p, kvs[i]? = some p := ⟨kvs[i], List.getElem?_eq_getElem hi⟩
    have hi2 : i < es.size := by
      have : i < kvs.length := hi
      omega
    obtain ⟨rk, rv⟩ := hp i hi2 k v hkv
    obtain ⟨ok, ov, he⟩ := st
    have hlt : it < s.heap.objs.size := Heap.lt_size he
    refine wpAny_pyNext_items_item_raw he hm hi2 fun h' ho hT hz hk => ?_
    refine ⟨_, rfl, wpAny_letOwnedTupleGo_items (s := { s with heap := h' }) ho fun h'' he' sb => ?_⟩
    have hT2 : h''.get? s.heap.objs.size = some { cls := .type "tuple", data := .seq #[es[i].key, es[i].val] } := (sb.2 _ (Nat.ne_of_gt hlt)).trans hT
    have new : ObjOk X.prog X.w (upd H s.heap.objs.size (.tup [.str k, v])) h'' s.heap.objs.size (.tup [.str k, v]) :=
      ⟨by show 2 ≤ sizeLine; decide, [es[i].key, es[i].val], .cons rk (.cons rv .nil), ⟨_, hT2, rfl, _, rfl⟩⟩
    have I1 : Inv X pins σ (upd H s.heap.objs.size (.tup [.str k, v])) { s with heap := h'' } :=
      I.turnedNew (t' := s.toks) (ch := [it]) (fun b ob hb e => (sb.2 b (by simpa using hb)).trans (hk b ob (by simpa using hb) e)) hf (Nat.le_refl _) new
    refine ⟨.ref s.heap.objs.size, _, I1, rfl, ⟨_, k, v, hkv, rfl, I.hok.fresh (Nat.le_refl _), rfl⟩, ⟨_, _, he'⟩, fun b hb => ?_⟩
    have e : b = it := by simpa using hb
    rw [e, upd_ne (Nat.ne_of_lt hlt)]
    exact (hf it (by simp)).1
  done := by
    intro X hP hw hK hc i pins s σ H E I hf st hi
    subst hP hw hK
    obtain ⟨f0, f1, f2, f3, f4, f5⟩ := hf it (by simp)
    have hm : s.heap.DictRaw d es ep := ⟨_, I.kIn _ _ D, ⟨rfl, rfl, rfl⟩, rfl⟩
    obtain ⟨ok, ov, he⟩ := st
    have hi' : kvs.length ≤ i := hi
    exact wpAny_pyNext_items_end_raw (I.ok.hd hc) he hm (by omega) fun h' eb => ⟨rfl, I.turned (t' := s.toks) (fun b ob hb e => eb b ob hb e) f0 f1 f3 f4 f5⟩
  self := fun A i s Q E st h => let ⟨_, _, e⟩ := st; PySem.W.kcp_self e h
end
theorem pi_itemsW {X : Cx} {K : PySem.W.Frag} {e : Expr} {td : TE} {apos cpos : Pos} {elts : List Expr} {kk : Nat} {tpos : Pos} {d : Addr} {es : Array DictEntry} {ep : Nat} {kvs : List (Str × V)} (D : K.lookup d = some ⟨.type "dict", none, .dict es ep, #[]⟩) (hs : (d == sysModules) = false) (hl : es.size = kvs.length)
    (hp : ∀ i (h : i < es.size) k v, kvs[i]? = some (k, v) → RelV (.str k) es[i].key ∧ RelV v es[i].val) (he : PE X e td) (hbase : attributeBase e "items" X.env (eval e X.env) = eval e X.env := by rfl) (hline : (apos.endLine == cpos.line) = true := by rfl) (hK : X.K = K := by rfl) :
    PI X (.Tuple elts kk tpos) (.Call (.Attribute e "items" apos) [] [] cpos) (fun σ H R => td σ H fun x H1 => x = .ref d ∧ R (Itw kvs) H1) := by
  subst hK
  refine ⟨fun pins s σ H R I h => ?_⟩
  refine wpAny_Call_method (T := "dict") (id := "dict.items") hbase rfl hline F.plainAttrs_dict F.slot_dict_items F.type_dict_items (thn (he.run pins s σ H _ I h) fun u s1 ⟨x, H1, I1, rx, ex, q⟩ => ?_)
  subst ex
  obtain rfl : u = Value.ref d := rx
  have hm : s1.heap.DictRaw d es ep := ⟨_, I1.kIn _ _ D, ⟨rfl, rfl, rfl⟩, rfl⟩
  refine ⟨hm.typeIs, fun b hb => ?_, ?_⟩
  · cases hb
    exact ⟨_, I1.kIn _ _ D, rfl⟩
  have I2 : Inv X pins σ H1 { s1 with heap := s1.heap.push { cls := .type "dict_items", data := .fields #[.ref d] } } := I1.kept (t' := s1.toks) fun b ob q => Heap.get?_push_of_some _ q
  have fin : wpAny (model X.prog X.w) X.A (pyIter (.ref s1.heap.objs.size)) (PIE X pins σ (.Tuple elts kk tpos) R) X.xe { s1 with heap := s1.heap.push { cls := .type "dict_items", data := .fields #[.ref d] } } := by
    refine wpAny_pyIter_items_raw (d := d) ⟨_, Heap.get?_push_size _ rfl, rfl, rfl⟩ ⟨_, Heap.get?_push_of_some _ (I1.kIn _ _ D), ⟨rfl, rfl, rfl⟩, rfl⟩ (pi_one (tk := s1.toks) I2 _ (turn_itemsW _ D hl hp) ⟨.none, .none, ?_⟩ q)
    exact Heap.get?_push_size _ rfl
  show wpAny _ _ (callWith cpos (.builtin "dict.items") [.ref d] [] []) _ X.xe s1
  exact method_meetsIn F.slot_dict_items F.entry_dict_items rfl (PySem.evalArgs_none ⟨rfl, hm.typeIs, F.args_dict_items_1 _, _, DT.meetsItems (es := es) (ep := ep) hs, ⟨hm, fin⟩⟩)
theorem pg_tupK {X : Cx} {K : PySem.W.Frag} {es : List Expr} {k : Nat} {pos : Pos} {t : TGs} (n : Nat) (h : PGs X es t) (hc : X.calm = true := by rfl) (hn : (assignEach es X.env).length = n := by rfl) (hst : (assignEach es X.env).findIdx? (·.1) = none := by rfl) (hK : X.K = K := by rfl) : PG X (.Tuple es k pos) (gTup K n t) := by
  subst hK
  exact pg_tup hc h hn hst
def refV1 (v : Value) : V := match v with
  | .ref a => .ref a
  | _ => .non
def bareKV (es : Array DictEntry) : List (Str × V) := (es.toList.zip bareK).map fun q => (S q.2.1, refV1 q.1.val)
theorem BareF.hl {K : PySem.W.Frag} {w : World} {es : Array DictEntry} {n : Nat} (B : BareF K w es n) : es.size = (bareKV es).length := by
  rw [bareKV, List.length_map, List.length_zip, B.l, Nat.min_self, ← B.l, Array.length_toList]
theorem BareF.hp {K : PySem.W.Frag} {w : World} {es : Array DictEntry} {n : Nat} (B : BareF K w es n) : ∀ i (h : i < es.size) k v, (bareKV es)[i]? = some (k, v) → RelV (.str k) es[i].key ∧ RelV v es[i].val := by
  intro i hi k v h
  rw [bareKV, List.getElem?_map] at h
  cases q : (es.toList.zip bareK)[i]? with
  | none =>
    rw [q] at h
    cases h
  | some p =>
    rw [q] at h
    have h := Option.some.inj h
    obtain ⟨a, ⟨t, hk⟩, hv, _⟩ := B.e p (List.mem_of_getElem? q)
    rw [List.getElem?_zip_eq_some] at q
    have e1 : p.1 = es[i] := by
      have := q.1
      rw [Array.getElem?_toList, Array.getElem?_eq_getElem hi] at this
      exact (Option.some.inj this).symm
    rw [← e1]
    injection h with h1 h2
    rw [← h1, ← h2, hk, hv]
    exact ⟨⟨t, rfl⟩, rfl⟩
section
variable {g : TG} {tt : TT} {te : TE} {vs : List Nat} {σ : L2.St} {L : Addr} {Q : VK} {H : Hp}
/-- a comprehension over a written table's items -/
theorem comp_itw (kvs : List (Str × V)) (Pv : List (Str × V) → List V → Hp → Prop) (hz : kvs.length ≤ 1000000) (h0 : Pv kvs [] H) (hL0 : H L = some (.lst []))
    (hs : ∀ i k v r acc H T, H L = some (.lst acc) → acc.length ≤ i → i < 1000000 → Pv ((k, v) :: r) acc H → H T = none → g (.ref T) (wipe σ vs) (upd H T (.tup [.str k, v])) fun σ2 H2 => wipe σ2 vs = wipe σ vs ∧ tt σ2 H2 fun b H3 =>
      if b = true then te σ2 H3 fun y H4 => ∃ acc, H4 L = some (.lst acc) ∧ acc.length < sizeLine ∧ CNx L (i + 1) (Pv r) (upd H4 L (.lst (acc ++ [y]))) else CNx L (i + 1) (Pv r) H3)
    (hd : ∀ acc H, H L = some (.lst acc) → acc.length ≤ kvs.length → Pv [] acc H → Q (.ref L) H) : CompP (Itw kvs) g tt te vs σ L Q H := by
  refine ⟨fun i m H => m = kvs.length - i ∧ i ≤ kvs.length ∧ CNx L i (Pv (kvs.drop i)) H, ⟨kvs.length, by simp, Nat.zero_le _, [], hL0, Nat.le_refl _, h0⟩, ?_⟩
  rintro i m H ⟨rfl, hi, acc, hA, hn, p⟩
  by_cases hlt : i < kvs.length
  · refine .inr ⟨hlt, CNx L (i + 1) (Pv (kvs.drop (i + 1))), fun H' p' => ⟨kvs.length - (i + 1), by omega, rfl, hlt, p'⟩, fun x H' y => ?_⟩
    obtain ⟨T, k, v, e1, e2, e3, e4⟩ := y
    subst e2 e4
    rw [drop_cons e1] at p
    exact hs i k v _ acc _ T hA hn (by omega) p e3
  · have e : i = kvs.length := by omega
    subst e
    rw [List.drop_length] at p
    exact .inl ⟨Nat.le_refl _, hd acc H hA hn p⟩
end
theorem bare_ct {w : World} {K : PySem.W.Frag} {es : Array DictEntry} {n : Nat} (B : BareF K w es n) {j : Nat} {k : Str} {v : V} {r : List (Str × V)} (h : (k, v) :: r = (bareKV es).drop j) :
    ∃ p a, bareK[j]? = some p ∧ k = S p.1 ∧ v = .ref a ∧ (∀ H, SqT K H a [.str (S p.2)]) ∧ r = (bareKV es).drop (j + 1) := by
  have h0 : (bareKV es)[j]? = some (k, v) := by
    have : ((bareKV es).drop j)[0]? = some (k, v) := by rw [← h]; rfl
    rw [List.getElem?_drop] at this
    exact this
  have hr : r = (bareKV es).drop (j + 1) := by
    have := drop_cons h0
    rw [← h] at this
    exact (List.cons.inj this).2
  rw [bareKV, List.getElem?_map] at h0
  cases q : (es.toList.zip bareK)[j]? with
  | none =>
    rw [q] at h0
    cases h0
  | some p =>
    rw [q] at h0
    have h0 := Option.some.inj h0
    obtain ⟨a, ⟨t, hk⟩, hv, hs⟩ := B.e p (List.mem_of_getElem? q)
    rw [List.getElem?_zip_eq_some] at q
    injection h0 with h1 h2
    exact ⟨p.2, a, q.2, h1.symm, by rw [← h2, hv]; rfl, hs, hr⟩
theorem eqv1 (a b : Tx) : PyData.eqv (.tuple [dS a]) (.tuple [dS b]) = (a == b) := by
  simp only [PyData.eqv, PyData.eqvAll, dS, SX.S_beq, Bool.and_true]
theorem bareK_asc : ∀ p ∈ bareK, asc p.1 ∧ asc p.2 := by
  intro p hp
  simp only [bareK, List.mem_cons, List.not_mem_nil, or_false] at hp
  rcases hp with rfl | rfl | rfl | rfl | rfl <;> exact ⟨asc_of rfl, asc_of rfl⟩
theorem bare_find {w : World} {K : PySem.W.Frag} {es : Array DictEntry} {n : Nat} (B : BareF K w es n) {q : Addr} {nm : Tx} {H : Hp} (hq : SqT K H q [.str (S nm)]) (ha : asc nm) {L : Addr} (hL : H L = none) {Q : VK}
    (k : ∀ H', Same H H' → H' L = some (.lst ((bareK.filter fun p => p.2 == nm).map fun p => .str (S p.1))) → Q (.ref L) H') :
    CompP (Itw (bareKV es)) (gTup K 2 (gCons (gName 1) (gCons (gName 2) gNil))) (tTest (tOp (rEqD K) (tVar 2) (tVar 0))) (tVar 1) [1, 2] [some (V.ref q), none, none] L Q (upd H L (.lst [])) := by
  refine comp_itw (bareKV es) (fun r acc H' => Same H H' ∧ ∃ j, r = (bareKV es).drop j ∧ acc = ((bareK.take j).filter fun p => p.2 == nm).map fun p => .str (S p.1)) ?_ ⟨same_new hL, 0, rfl, rfl⟩ upd_same ?_ ?_
  · rw [← B.hl, ← Array.length_toList, B.l]
    decide
  · rintro i kk v r acc H3 T hA hn hi ⟨s3, j, hr, rfl⟩ hT
    obtain ⟨p, a, hp, rfl, rfl, hs, rfl⟩ := bare_ct B hr
    have s4 : Same H (upd H3 T (.tup [.str (S p.1), .ref a])) := s3.trans (same_new hT)
    have hLT : L ≠ T := fun e => by
      rw [e, hT] at hA
      cases hA
    have hA4 : upd H3 T (.tup [.str (S p.1), .ref a]) L = some (.lst (((bareK.take j).filter fun p => p.2 == nm).map fun p => .str (S p.1))) := by
      rw [upd_ne hLT]
      exact hA
    have hpm : p ∈ bareK := List.mem_of_getElem? hp
    have tk : bareK.take (j + 1) = bareK.take j ++ [p] := by
      rw [List.take_succ, hp]
      rfl
    have ok1 : SeqAt.shaped (.tuple [dS p.2]) = true := okD.shaped (n := 2) ⟨(by simp only [List.length_cons, List.length_nil]; decide), fun d hd => by rw [List.mem_singleton.mp hd]; exact dS_ok (bareK_asc p hpm).2⟩ (by decide)
    have ok2 : SeqAt.shaped (.tuple [dS nm]) = true := okD.shaped (n := 2) ⟨(by simp only [List.length_cons, List.length_nil]; decide), fun d hd => by rw [List.mem_singleton.mp hd]; exact dS_ok ha⟩ (by decide)
    refine ⟨T, _, rfl, st_of upd_same, rfl, ?_⟩
    simp only [wipe, List.map_cons, List.map_nil, List.set_cons_succ, List.set_cons_zero, tSeq, tAsg, tAnd, tOr, tNot, tTest, tB, tOp, tUn, tCB, tCons, tNil, tVar, tC, gName, rI0, rI, rU, rEq, rNe, rIxS, rIxL, rIxT, tRet, tRetN, tTup, tLst, tSl, tPart, tNoPart, rSlS, tIf, tIfS, tNext, tDrop, tCall, tBM, tBM0, tAndV, tOrV, tNotV, tM0, tM1, gSub, rSetL, sFld, gCons_eq, gNil_eq, tCallS_eq, tDGet, sDPut, tMeth, tMake, tFld, tChain, tIsN, tNotN,
  List.set_cons_zero, List.set_cons_succ, exists_eq_left', exists_eq_left, exists_eq, V.int.injEq, V.str.injEq, V.bl.injEq, V.ref.injEq, List.cons.injEq, and_true, true_and, List.getElem?_cons_zero, List.getElem?_cons_succ, Option.some.injEq, List.append_nil, exists_and_left, cxOf_K, false_and, and_false, exists_false, false_or, or_false, exists_eq', exists_const, sg_eq, S_eq, S_toList, S_ne, tFor_eq, tLc_eq, iList_eq, iTup_eq, iRng1_eq, iStr_eq, decide_eq_true_eq, Bool.not_eq_true', decide_eq_false_iff_not, if_true, if_false, Bool.false_eq_true, reduceCtorEq, Bool.true_eq_false, decide_true, decide_false, rEqD, VK]
    refine ⟨_, .tup (hs _) (dp_strs [S p.2]), _, .tup (same_t s4 hq) (dp_strs [S nm]), ok1, ok2, ?_⟩
    rw [show PyData.eqv (PyData.tuple ([S p.2].map PyData.str)) (PyData.tuple ([S nm].map PyData.str)) = (p.2 == nm) from eqv1 _ _]
    cases hb : p.2 == nm with
    | true =>
      rw [if_pos rfl]
      refine cput hA4 hn hi ⟨same_mut s4 hL, j + 1, rfl, ?_⟩
      rw [tk, List.filter_append, show [p].filter (fun p => p.2 == nm) = [p] from by simp only [List.filter, hb], List.map_append]
      rfl
    | false =>
      rw [if_neg (fun z => nomatch z)]
      refine cskip hA4 hn ⟨s4, j + 1, rfl, ?_⟩
      rw [tk, List.filter_append, show [p].filter (fun p => p.2 == nm) = [] from by simp only [List.filter, hb], List.append_nil]
  · rintro acc H3 hA hn ⟨s3, j, hr, rfl⟩
    refine k _ s3 ?_
    have hj : bareK.length ≤ j := by
      have := congrArg List.length hr
      rw [List.length_drop, ← B.hl, ← Array.length_toList, B.l, List.length_nil] at this
      omega
    rw [List.take_of_length_le hj] at hA
    exact hA
/-! ### actions as texts -/
def aText : Act → Tx
  | .word t => t
  | .glue t => [123, 38] ++ t ++ [125]
  | .join t l r => if t.isEmpty then [123, 94, 125] else [123] ++ (if l then [94] else []) ++ t ++ (if r then [94] else []) ++ [125]
  | .stop c => [123] ++ [c] ++ [125]
  | .great => [123, 45, 124, 125]
  | .all => [123, 60, 125]
  | .last => [123, 42, 45, 124, 125]
  | .back => [123, 98, 97, 99, 107, 125]
  | .again => [123, 97, 103, 97, 105, 110, 125]
theorem mul94 (b : Bool) : Txt.mul (S [94]) (if b = true then 1 else 0) = S (if b = true then [94] else []) := by cases b <;> decide +kernel
def sp_atext (K : PySem.W.Frag) : Sp := fun vs H Q _ => ∃ (v : V) (a : Act), vs = [v] ∧ Dp K H v (actD a) ∧ actOk a ∧ ∀ H', Same H H' → Q (.str (S (aText a))) H'
/-! ### entries as texts -/
def jT (r : List Tx) : Tx := TL.joinL [32] r
def eText (e : List Act) : Tx := jT (e.map aText)
theorem join_ent (r : List Tx) : Txt.join (S [32]) (r.map SX.S) = S (jT r) := SX.join_S [32] r
theorem sum_len {m : Nat} : ∀ r : List Tx, (∀ t ∈ r, t.length ≤ m) → ((r.map SX.S).map (·.length)).sum ≤ m * r.length
  | [], _ => Nat.zero_le _
  | t :: r, h => by
    have ih := sum_len r fun x hx => h x (List.mem_cons_of_mem _ hx)
    have h1 := h t List.mem_cons_self
    rw [List.map_cons, List.map_cons, List.sum_cons, List.length_cons, Nat.mul_succ]
    have : (SX.S t).length = t.length := SX.S_len t
    omega
theorem jT_len {m : Nat} : ∀ r : List Tx, (∀ t ∈ r, t.length ≤ m) → (jT r).length ≤ (m + 1) * r.length
  | [], _ => Nat.zero_le _
  | [t], h => by
    have := h t List.mem_cons_self
    show t.length ≤ (m + 1) * 1
    omega
  | t :: u :: r, h => by
    have ih := jT_len (u :: r) fun x hx => h x (List.mem_cons_of_mem _ hx)
    have h1 := h t List.mem_cons_self
    show (t ++ ([32] ++ jT (u :: r))).length ≤ _
    rw [List.length_append, List.length_append, List.length_singleton, List.length_cons, Nat.mul_succ]
    omega
theorem jT_asc : ∀ r : List Tx, (∀ t ∈ r, asc t) → asc (jT r)
  | [], _ => fun c hc => nomatch hc
  | [t], h => h t List.mem_cons_self
  | t :: u :: r, h => asc_app (h t List.mem_cons_self) (asc_app (asc_of rfl) (jT_asc (u :: r) fun x hx => h x (List.mem_cons_of_mem _ hx)))
theorem split_ent {r : List Tx} (h1 : r ≠ []) (h2 : ∀ t ∈ r, 32 ∉ t) : Txt.split (S (jT r)) (S [32]) = r.map SX.S := by
  rw [← join_ent]
  refine TL.split_join (s := 32) (S := []) rfl (by decide +kernel) (fun e => h1 (List.map_eq_nil_iff.mp e)) fun p hp => ?_
  obtain ⟨t, ht, rfl⟩ := List.mem_map.mp hp
  exact h2 t ht
theorem wordOk.no {t : Tx} (h : wordOk t) (c : Nat) (hc : wsign c = false) : c ∉ t := fun m => by
  rw [h.2.2 c m] at hc
  cases hc
theorem aText_ok {a : Act} (h : actOk a) : (aText a).length ≤ 20 ∧ asc (aText a) ∧ 32 ∉ aText a := by
  have key : ∀ {x y t : Tx}, x.length + y.length ≤ 4 → (x ++ y).all (fun c => decide (c < 128) && decide (c ≠ 32)) = true → wordOk t → (x ++ t ++ y).length ≤ 20 ∧ asc (x ++ t ++ y) ∧ 32 ∉ x ++ t ++ y := fun {x y t} hl hb ht => by
    have hb' : ∀ c ∈ x ++ y, c < 128 ∧ c ≠ 32 := fun c hc => by
      have := List.all_eq_true.mp hb c hc
      rw [Bool.and_eq_true, decide_eq_true_eq, decide_eq_true_eq] at this
      exact this
    have h16 := ht.2.1
    refine ⟨by simp only [List.length_append]; omega, fun c hc => ?_, fun hc => ?_⟩
    · rcases List.mem_append.mp hc with hc | hc
      · rcases List.mem_append.mp hc with hc | hc
        · exact (hb' c (List.mem_append_left _ hc)).1
        · exact ht.asc c hc
      · exact (hb' c (List.mem_append_right _ hc)).1
    · rcases List.mem_append.mp hc with hc | hc
      · rcases List.mem_append.mp hc with hc | hc
        · exact (hb' _ (List.mem_append_left _ hc)).2 rfl
        · exact ht.no 32 rfl hc
      · exact (hb' _ (List.mem_append_right _ hc)).2 rfl
  cases a with
  | word t =>
    have := key (x := []) (y := []) (by decide) rfl h
    rw [List.nil_append, List.append_nil] at this
    exact this
  | glue t => exact key (x := [123, 38]) (y := [125]) (by decide) rfl h
  | join t l r =>
    rcases h with ⟨h, _⟩ | ⟨rfl, _, _⟩
    · cases t with
      | nil => exact absurd h.1 (by decide)
      | cons c t =>
        have := key (x := [123] ++ (if l = true then [94] else [])) (y := (if r = true then [94] else []) ++ [125]) (t := c :: t) (by cases l <;> cases r <;> decide) (by cases l <;> cases r <;> rfl) h
        show ([123] ++ (if l = true then [94] else []) ++ (c :: t) ++ (if r = true then [94] else []) ++ [125]).length ≤ 20 ∧ asc ([123] ++ (if l = true then [94] else []) ++ (c :: t) ++ (if r = true then [94] else []) ++ [125]) ∧ 32 ∉ [123] ++ (if l = true then [94] else []) ++ (c :: t) ++ (if r = true then [94] else []) ++ [125]
        rw [← List.append_assoc] at this
        exact this
    · rw [show aText (.join [] l r) = [123, 94, 125] from rfl]
      exact ⟨by decide, asc_of rfl, by decide⟩
  | stop c =>
    have h : c ∈ [46, 63, 33, 44, 58, 59] := h
    simp only [List.mem_cons, List.not_mem_nil, or_false] at h
    rcases h with rfl | rfl | rfl | rfl | rfl | rfl <;> exact ⟨by decide, asc_of rfl, by decide⟩
  | great => exact ⟨by decide, asc_of rfl, by decide⟩
  | all => exact ⟨by decide, asc_of rfl, by decide⟩
  | last => exact ⟨by decide, asc_of rfl, by decide⟩
  | back => exact ⟨by decide, asc_of rfl, by decide⟩
  | again => exact ⟨by decide, asc_of rfl, by decide⟩
def sp_etext (K : PySem.W.Frag) : Sp := fun vs H Q _ => ∃ (v : V) (e : List Act), vs = [v] ∧ Dp K H v (entD e) ∧ (∀ a ∈ e, actOk a) ∧ e.length ≤ 4 ∧ ∀ H', Same H H' → Q (.str (S (eText e))) H'
/-! ### the law's texts of actions and entries -/
abbrev s_l_action_text : Stmt := (top 22)
theorem sc_l_action_text : FnScope ["_law_action_here", "_law_kind", "_law_bare"] ["_law_action_here"] (defScope s_l_action_text) := ⟨rfl, rfl, rfl, by decide +kernel, rfl, by decide +kernel, by decide +kernel⟩

abbrev s_l_entry_text : Stmt := (top 23)
theorem sc_l_entry_text : FnScope ["_law_entry_here", "_law_action_here"] ["_law_entry_here"] (defScope s_l_entry_text) := ⟨rfl, rfl, rfl, by decide +kernel, rfl, by decide +kernel, by decide +kernel⟩

section
variable {P : Program} {w : World} {K : PySem.W.Frag} {mg : Str → Option Value} {base : Heap}
def dT (ps : List (Tx × Tx)) : List (Key × V) := ps.map fun p => (.inr (S p.1), .str (S p.2))
theorem pairs_T {σ : L2.St} {R : List (V × V) → Hp → Prop} : ∀ (ps : List (Tx × Tx)) {H : Hp} {R : List (V × V) → Hp → Prop}, R (ps.map fun p => (.str (S p.1), .str (S p.2))) H → tPairs (ps.map fun p => (tC (.str (S p.1)), tC (.str (S p.2)))) σ H R
  | [], _, _, h => h
  | p :: r, H, R, h => pairs_T r (R := fun ps H3 => R ((.str (S p.1), .str (S p.2)) :: ps) H3) h
theorem disp_T (ps : List (Tx × Tx)) (hm : mergeK [] (dT ps) = dT ps) (h15 : ps.length ≤ 15) {σ : L2.St} {H : Hp} {Q : VK} (k : ∀ p H', Same H H' → H' p = some (.dK (dT ps)) → Q (.ref p) H') : tDisp (ps.map fun p => (tC (.str (S p.1)), tC (.str (S p.2)))) σ H Q := by
  intro p hp
  refine pairs_T (R := fun _ _ => True) ps ⟨upd_same, dT ps, ?_, by rw [dT, List.length_map]; exact h15, ?_⟩
  · rw [dT, List.map_map]
    rfl
  · rw [hm, upd_upd]
    exact k p _ (same_new hp) upd_same
abbrev bareR : List (Tx × Tx) := [(wGreat, [123, 45, 124, 125]), (wAll, [123, 60, 125]), (wLast, [123, 42, 45, 124, 125]), (wBack, [123, 98, 97, 99, 107, 125]), (wAgain, [123, 97, 103, 97, 105, 110, 125])]
abbrev signR : List (Tx × Tx) := [(wGlue, [38]), (wStop, []), (wJoin, [94])]
theorem dget_T {ps : List (Tx × Tx)} {H : Hp} {p : Addr} (hp : H p = some (.dK (dT ps))) (t : Tx) (o : Option V) (e : valV (dT ps) (.inr (S t)) = o) : DGet H p (.str (S t)) o := .inl ⟨_, .inr (S t), .inl hp, rfl, e.symm⟩
theorem ok_latext {f : Addr} {fd : FuncData} (F : FunS K "_law_action_text" s_l_action_text f fd) (b_int : mg "int" = none) : FnOk P w K mg base CX0 1 f fd ["_law_action_here"] (sp_atext K) := by
  refine F.ok sc_l_action_text (fun vs H Q E h => ?_) (fun cdv A outer s H vs Q E hr h => ?_)
  · obtain ⟨v, a, rfl, _⟩ := h
    rfl
  obtain ⟨v, a, rfl, hd, ha, k⟩ := h
  refine ⟨_, PSs.nox (pss_cons (ps_set (i := 1) sc_l_action_text.nd rfl (.inl rfl) (pe_ix ix_tup (pv 0) pe_int (fun _ _ => rfl)))
  (pss_cons (ps_if (pt_cmpR op_eq (pv 1) pe_str (nomark _))
    (pss_one (ps_ret (pe_ix ix_tup (pv 0) pe_int (fun _ _ => rfl))))
    pss_nil)
  (pss_cons (ps_set (i := 2) sc_l_action_text.nd rfl (.inl rfl) (pe_disp (pps_cons pe_str pe_str (pps_cons pe_str pe_str (pps_cons pe_str pe_str (pps_cons pe_str pe_str (pps_cons pe_str pe_str pps_nil))))) (by rfl) (by rfl) (fun z => by cases z) (by decide)))
  (pss_cons (ps_if (pt_cmp (pc_din (hu_of hr) (pv 1) (pv 2)))
    (pss_one (ps_ret (pe_dget (hu_of hr) (pv 2) (pv 1) (fun _ _ => rfl))))
    pss_nil)
  (pss_cons (ps_if (PW.pt (pw_and (pt_cmpR op_eq (pv 1) pe_str (nomark _)) (pw_and1 (pt_cmpR op_ne (pe_ix ix_tup (pv 0) pe_int (fun _ _ => rfl)) pe_str (nomark _)))))
    (pss_one (ps_ret (pe_op op_add_str (pe_op op_add_str (pe_op op_add_str (pe_op op_add_str pe_str (pe_ix ix_list (pe_lst (pa_cons pe_str (pa_cons pe_str pa_nil))) (pe_callTy call_int1 (by rfl) b_int (by decide +kernel) (pa_cons (pe_ix ix_tup (pv 0) pe_int (fun _ _ => rfl)) pa_nil)) (fun _ _ => rfl))) (pe_ix ix_tup (pv 0) pe_int (fun _ _ => rfl))) (pe_ix ix_list (pe_lst (pa_cons pe_str (pa_cons pe_str pa_nil))) (pe_callTy call_int1 (by rfl) b_int (by decide +kernel) (pa_cons (pe_ix ix_tup (pv 0) pe_int (fun _ _ => rfl)) pa_nil)) (fun _ _ => rfl))) pe_str)))
    pss_nil)
  (pss_one (ps_ret (pe_op op_add_str (pe_op op_add_str (pe_op op_add_str pe_str (pe_dget (hu_of hr) (pe_disp (pps_cons pe_str pe_str (pps_cons pe_str pe_str (pps_cons pe_str pe_str pps_nil))) (by rfl) (by rfl) (fun z => by cases z) (by decide)) (pv 1) (fun _ _ => rfl))) (pe_ix ix_tup (pv 0) pe_int (fun _ _ => rfl))) pe_str)))))))), ?_⟩
  simp only [tSeq, tAsg, tAnd, tOr, tNot, tTest, tB, tOp, tUn, tCB, tCons, tNil, tVar, tC, gName, rI0, rI, rU, rEq, rNe, rIxS, rIxL, rIxT, tRet, tRetN, tTup, tLst, tSl, tPart, tNoPart, rSlS, tIf, tNext, tDrop, tCall, tBM, tBM0, tAndV, tOrV, tNotV, tM0, tM1, gSub, rSetL, sFld, gCons_eq, gNil_eq, tCallS_eq, tDGet, sDPut, tMeth, tMake, tFld, tChain, tIsN, tNotN,
  List.set_cons_zero, List.set_cons_succ, exists_eq_left', exists_eq_left, exists_eq, V.int.injEq, V.str.injEq, V.bl.injEq, V.ref.injEq, List.cons.injEq, and_true, true_and, List.getElem?_cons_zero, List.getElem?_cons_succ, Option.some.injEq, List.append_nil, exists_and_left, cxOf_K, false_and, and_false, exists_false, false_or, or_false, exists_eq', exists_const, sg_eq, S_eq, S_toList, S_ne, tFor_eq, tLc_eq, iList_eq, iTup_eq, iRng1_eq, iStr_eq, decide_eq_true_eq, Bool.not_eq_true', decide_eq_false_iff_not, if_true, if_false, Bool.false_eq_true, reduceCtorEq, Bool.true_eq_false, decide_true, decide_false, lit_119_111_114_100, lit_103_114_101_97_116, lit_97_108_108, lit_108_97_115_116, lit_98_97_99_107, lit_97_103_97_105_110, lit_123_45_124_125, lit_123_60_125, lit_123_42_45_124_125, lit_123_98_97_99_107_125, lit_123_97_103_97_105_110_125, lit_125, lit_106_111_105_110, lit_, lit_123, lit_94, lit_103_108_117_101, lit_115_116_111_112, lit_38, start1_3]
  cases a with
  | word t =>
    obtain ⟨q, rfl, hq⟩ := dp2 hd
    simp only [tSeq, tAsg, tAnd, tOr, tNot, tTest, tB, tOp, tUn, tCB, tCons, tNil, tVar, tC, gName, rI0, rI, rU, rEq, rNe, rIxS, rIxL, rIxT, tRet, tRetN, tTup, tLst, tSl, tPart, tNoPart, rSlS, tIf, tIfS, tNext, tDrop, tCall, tBM, tBM0, tAndV, tOrV, tNotV, tM0, tM1, gSub, rSetL, sFld, gCons_eq, gNil_eq, tCallS_eq, tDGet, sDPut, tMeth, tMake, tFld, tChain, tIsN, tNotN,
  List.set_cons_zero, List.set_cons_succ, exists_eq_left', exists_eq_left, exists_eq, V.int.injEq, V.str.injEq, V.bl.injEq, V.ref.injEq, List.cons.injEq, and_true, true_and, List.getElem?_cons_zero, List.getElem?_cons_succ, Option.some.injEq, List.append_nil, exists_and_left, cxOf_K, false_and, and_false, exists_false, false_or, or_false, exists_eq', exists_const, sg_eq, S_eq, S_toList, S_ne, tFor_eq, tLc_eq, iList_eq, iTup_eq, iRng1_eq, iStr_eq, decide_eq_true_eq, Bool.not_eq_true', decide_eq_false_iff_not, if_true, if_false, Bool.false_eq_true, reduceCtorEq, Bool.true_eq_false, decide_true, decide_false]
    refine ⟨_, hq, _, at0 _ _, rfl, ?_⟩
    rw [if_pos rfl]
    exact ⟨_, hq, _, at1 _ _ _, k _ (Same.refl _)⟩
  | glue t =>
    obtain ⟨q, rfl, hq⟩ := dp2 hd
    have h16 := (show wordOk t from ha).2.1
    simp only [tSeq, tAsg, tAnd, tOr, tNot, tTest, tB, tOp, tUn, tCB, tCons, tNil, tVar, tC, gName, rI0, rI, rU, rEq, rNe, rIxS, rIxL, rIxT, tRet, tRetN, tTup, tLst, tSl, tPart, tNoPart, rSlS, tIf, tIfS, tNext, tDrop, tCall, tBM, tBM0, tAndV, tOrV, tNotV, tM0, tM1, gSub, rSetL, sFld, gCons_eq, gNil_eq, tCallS_eq, tDGet, sDPut, tMeth, tMake, tFld, tChain, tIsN, tNotN,
  List.set_cons_zero, List.set_cons_succ, exists_eq_left', exists_eq_left, exists_eq, V.int.injEq, V.str.injEq, V.bl.injEq, V.ref.injEq, List.cons.injEq, and_true, true_and, List.getElem?_cons_zero, List.getElem?_cons_succ, Option.some.injEq, List.append_nil, exists_and_left, cxOf_K, false_and, and_false, exists_false, false_or, or_false, exists_eq', exists_const, sg_eq, S_eq, S_toList, S_ne, tFor_eq, tLc_eq, iList_eq, iTup_eq, iRng1_eq, iStr_eq, decide_eq_true_eq, Bool.not_eq_true', decide_eq_false_iff_not, if_true, if_false, Bool.false_eq_true, reduceCtorEq, Bool.true_eq_false, decide_true, decide_false]
    refine ⟨_, hq, _, at0 _ _, rfl, ?_⟩
    rw [if_neg (by decide)]
    refine disp_T bareR rfl (by decide) fun p H1 s1 hp => ?_
    have hq1 := same_t s1 hq
    simp only [tDIn, tSeq, tAsg, tAnd, tOr, tNot, tTest, tB, tOp, tUn, tCB, tCons, tNil, tVar, tC, gName, rI0, rI, rU, rEq, rNe, rIxS, rIxL, rIxT, tRet, tRetN, tTup, tLst, tSl, tPart, tNoPart, rSlS, tIf, tIfS, tNext, tDrop, tCall, tBM, tBM0, tAndV, tOrV, tNotV, tM0, tM1, gSub, rSetL, sFld, gCons_eq, gNil_eq, tCallS_eq, tDGet, sDPut, tMeth, tMake, tFld, tChain, tIsN, tNotN,
  List.set_cons_zero, List.set_cons_succ, exists_eq_left', exists_eq_left, exists_eq, V.int.injEq, V.str.injEq, V.bl.injEq, V.ref.injEq, List.cons.injEq, and_true, true_and, List.getElem?_cons_zero, List.getElem?_cons_succ, Option.some.injEq, List.append_nil, exists_and_left, cxOf_K, false_and, and_false, exists_false, false_or, or_false, exists_eq', exists_const, sg_eq, S_eq, S_toList, S_ne, tFor_eq, tLc_eq, iList_eq, iTup_eq, iRng1_eq, iStr_eq, decide_eq_true_eq, Bool.not_eq_true', decide_eq_false_iff_not, if_true, if_false, Bool.false_eq_true, reduceCtorEq, Bool.true_eq_false, decide_true, decide_false]
    refine ⟨none, dget_T hp wGlue none rfl, ?_⟩
    rw [if_neg (by decide)]
    refine ⟨rfl, ?_⟩
    rw [if_neg (by decide)]
    refine disp_T signR rfl (by decide) fun p2 H2 s2 hp2 => ?_
    simp only [tSeq, tAsg, tAnd, tOr, tNot, tTest, tB, tOp, tUn, tCB, tCons, tNil, tVar, tC, gName, rI0, rI, rU, rEq, rNe, rIxS, rIxL, rIxT, tRet, tRetN, tTup, tLst, tSl, tPart, tNoPart, rSlS, tIf, tIfS, tNext, tDrop, tCall, tBM, tBM0, tAndV, tOrV, tNotV, tM0, tM1, gSub, rSetL, sFld, gCons_eq, gNil_eq, tCallS_eq, tDGet, sDPut, tMeth, tMake, tFld, tChain, tIsN, tNotN,
  List.set_cons_zero, List.set_cons_succ, exists_eq_left', exists_eq_left, exists_eq, V.int.injEq, V.str.injEq, V.bl.injEq, V.ref.injEq, List.cons.injEq, and_true, true_and, List.getElem?_cons_zero, List.getElem?_cons_succ, Option.some.injEq, List.append_nil, exists_and_left, cxOf_K, false_and, and_false, exists_false, false_or, or_false, exists_eq', exists_const, sg_eq, S_eq, S_toList, S_ne, tFor_eq, tLc_eq, iList_eq, iTup_eq, iRng1_eq, iStr_eq, decide_eq_true_eq, Bool.not_eq_true', decide_eq_false_iff_not, if_true, if_false, Bool.false_eq_true, reduceCtorEq, Bool.true_eq_false, decide_true, decide_false]
    refine ⟨_, dget_T hp2 wGlue (some (.str (S [38]))) rfl, _, rfl, (size_le (by (try simp only [S_len, List.length_append, List.length_cons, List.length_nil]); omega)), _, same_t s2 hq1, _, at1 _ _ _, _, rfl, ?_⟩
    rw [S_cat]
    refine ⟨(size_le (by (try simp only [S_len, List.length_append, List.length_cons, List.length_nil]); omega)), ?_⟩
    rw [S_cat]
    refine ⟨(size_le (by (try simp only [S_len, List.length_append, List.length_cons, List.length_nil]); omega)), ?_⟩
    rw [S_cat]
    exact k _ (s1.trans s2)
  | stop c =>
    obtain ⟨q, rfl, hq⟩ := dp2 hd
    simp only [tSeq, tAsg, tAnd, tOr, tNot, tTest, tB, tOp, tUn, tCB, tCons, tNil, tVar, tC, gName, rI0, rI, rU, rEq, rNe, rIxS, rIxL, rIxT, tRet, tRetN, tTup, tLst, tSl, tPart, tNoPart, rSlS, tIf, tIfS, tNext, tDrop, tCall, tBM, tBM0, tAndV, tOrV, tNotV, tM0, tM1, gSub, rSetL, sFld, gCons_eq, gNil_eq, tCallS_eq, tDGet, sDPut, tMeth, tMake, tFld, tChain, tIsN, tNotN,
  List.set_cons_zero, List.set_cons_succ, exists_eq_left', exists_eq_left, exists_eq, V.int.injEq, V.str.injEq, V.bl.injEq, V.ref.injEq, List.cons.injEq, and_true, true_and, List.getElem?_cons_zero, List.getElem?_cons_succ, Option.some.injEq, List.append_nil, exists_and_left, cxOf_K, false_and, and_false, exists_false, false_or, or_false, exists_eq', exists_const, sg_eq, S_eq, S_toList, S_ne, tFor_eq, tLc_eq, iList_eq, iTup_eq, iRng1_eq, iStr_eq, decide_eq_true_eq, Bool.not_eq_true', decide_eq_false_iff_not, if_true, if_false, Bool.false_eq_true, reduceCtorEq, Bool.true_eq_false, decide_true, decide_false]
    refine ⟨_, hq, _, at0 _ _, rfl, ?_⟩
    rw [if_neg (by decide)]
    refine disp_T bareR rfl (by decide) fun p H1 s1 hp => ?_
    have hq1 := same_t s1 hq
    simp only [tDIn, tSeq, tAsg, tAnd, tOr, tNot, tTest, tB, tOp, tUn, tCB, tCons, tNil, tVar, tC, gName, rI0, rI, rU, rEq, rNe, rIxS, rIxL, rIxT, tRet, tRetN, tTup, tLst, tSl, tPart, tNoPart, rSlS, tIf, tIfS, tNext, tDrop, tCall, tBM, tBM0, tAndV, tOrV, tNotV, tM0, tM1, gSub, rSetL, sFld, gCons_eq, gNil_eq, tCallS_eq, tDGet, sDPut, tMeth, tMake, tFld, tChain, tIsN, tNotN,
  List.set_cons_zero, List.set_cons_succ, exists_eq_left', exists_eq_left, exists_eq, V.int.injEq, V.str.injEq, V.bl.injEq, V.ref.injEq, List.cons.injEq, and_true, true_and, List.getElem?_cons_zero, List.getElem?_cons_succ, Option.some.injEq, List.append_nil, exists_and_left, cxOf_K, false_and, and_false, exists_false, false_or, or_false, exists_eq', exists_const, sg_eq, S_eq, S_toList, S_ne, tFor_eq, tLc_eq, iList_eq, iTup_eq, iRng1_eq, iStr_eq, decide_eq_true_eq, Bool.not_eq_true', decide_eq_false_iff_not, if_true, if_false, Bool.false_eq_true, reduceCtorEq, Bool.true_eq_false, decide_true, decide_false]
    refine ⟨none, dget_T hp wStop none rfl, ?_⟩
    rw [if_neg (by decide)]
    refine ⟨rfl, ?_⟩
    rw [if_neg (by decide)]
    refine disp_T signR rfl (by decide) fun p2 H2 s2 hp2 => ?_
    simp only [tSeq, tAsg, tAnd, tOr, tNot, tTest, tB, tOp, tUn, tCB, tCons, tNil, tVar, tC, gName, rI0, rI, rU, rEq, rNe, rIxS, rIxL, rIxT, tRet, tRetN, tTup, tLst, tSl, tPart, tNoPart, rSlS, tIf, tIfS, tNext, tDrop, tCall, tBM, tBM0, tAndV, tOrV, tNotV, tM0, tM1, gSub, rSetL, sFld, gCons_eq, gNil_eq, tCallS_eq, tDGet, sDPut, tMeth, tMake, tFld, tChain, tIsN, tNotN,
  List.set_cons_zero, List.set_cons_succ, exists_eq_left', exists_eq_left, exists_eq, V.int.injEq, V.str.injEq, V.bl.injEq, V.ref.injEq, List.cons.injEq, and_true, true_and, List.getElem?_cons_zero, List.getElem?_cons_succ, Option.some.injEq, List.append_nil, exists_and_left, cxOf_K, false_and, and_false, exists_false, false_or, or_false, exists_eq', exists_const, sg_eq, S_eq, S_toList, S_ne, tFor_eq, tLc_eq, iList_eq, iTup_eq, iRng1_eq, iStr_eq, decide_eq_true_eq, Bool.not_eq_true', decide_eq_false_iff_not, if_true, if_false, Bool.false_eq_true, reduceCtorEq, Bool.true_eq_false, decide_true, decide_false]
    refine ⟨_, dget_T hp2 wStop (some (.str (S []))) rfl, _, rfl, (size_le (by (try simp only [S_len, List.length_append, List.length_cons, List.length_nil]); omega)), _, same_t s2 hq1, _, at1 _ _ _, _, rfl, ?_⟩
    rw [S_cat]
    refine ⟨(size_le (by (try simp only [S_len, List.length_append, List.length_cons, List.length_nil]); omega)), ?_⟩
    rw [S_cat]
    refine ⟨(size_le (by (try simp only [S_len, List.length_append, List.length_cons, List.length_nil]); omega)), ?_⟩
    rw [S_cat]
    exact k _ (s1.trans s2)
  | join t l r =>
    obtain ⟨q, rfl, hq⟩ := dp4 hd
    have h16 : t.length ≤ 16 := by
      rcases ha with h | ⟨rfl, _⟩
      · exact h.1.2.1
      · decide
    simp only [tSeq, tAsg, tAnd, tOr, tNot, tTest, tB, tOp, tUn, tCB, tCons, tNil, tVar, tC, gName, rI0, rI, rU, rEq, rNe, rIxS, rIxL, rIxT, tRet, tRetN, tTup, tLst, tSl, tPart, tNoPart, rSlS, tIf, tIfS, tNext, tDrop, tCall, tBM, tBM0, tAndV, tOrV, tNotV, tM0, tM1, gSub, rSetL, sFld, gCons_eq, gNil_eq, tCallS_eq, tDGet, sDPut, tMeth, tMake, tFld, tChain, tIsN, tNotN,
  List.set_cons_zero, List.set_cons_succ, exists_eq_left', exists_eq_left, exists_eq, V.int.injEq, V.str.injEq, V.bl.injEq, V.ref.injEq, List.cons.injEq, and_true, true_and, List.getElem?_cons_zero, List.getElem?_cons_succ, Option.some.injEq, List.append_nil, exists_and_left, cxOf_K, false_and, and_false, exists_false, false_or, or_false, exists_eq', exists_const, sg_eq, S_eq, S_toList, S_ne, tFor_eq, tLc_eq, iList_eq, iTup_eq, iRng1_eq, iStr_eq, decide_eq_true_eq, Bool.not_eq_true', decide_eq_false_iff_not, if_true, if_false, Bool.false_eq_true, reduceCtorEq, Bool.true_eq_false, decide_true, decide_false]
    refine ⟨_, hq, _, at0 _ _, rfl, ?_⟩
    rw [if_neg (by decide)]
    refine disp_T bareR rfl (by decide) fun p H1 s1 hp => ?_
    have hq1 := same_t s1 hq
    simp only [tDIn, tSeq, tAsg, tAnd, tOr, tNot, tTest, tB, tOp, tUn, tCB, tCons, tNil, tVar, tC, gName, rI0, rI, rU, rEq, rNe, rIxS, rIxL, rIxT, tRet, tRetN, tTup, tLst, tSl, tPart, tNoPart, rSlS, tIf, tIfS, tNext, tDrop, tCall, tBM, tBM0, tAndV, tOrV, tNotV, tM0, tM1, gSub, rSetL, sFld, gCons_eq, gNil_eq, tCallS_eq, tDGet, sDPut, tMeth, tMake, tFld, tChain, tIsN, tNotN,
  List.set_cons_zero, List.set_cons_succ, exists_eq_left', exists_eq_left, exists_eq, V.int.injEq, V.str.injEq, V.bl.injEq, V.ref.injEq, List.cons.injEq, and_true, true_and, List.getElem?_cons_zero, List.getElem?_cons_succ, Option.some.injEq, List.append_nil, exists_and_left, cxOf_K, false_and, and_false, exists_false, false_or, or_false, exists_eq', exists_const, sg_eq, S_eq, S_toList, S_ne, tFor_eq, tLc_eq, iList_eq, iTup_eq, iRng1_eq, iStr_eq, decide_eq_true_eq, Bool.not_eq_true', decide_eq_false_iff_not, if_true, if_false, Bool.false_eq_true, reduceCtorEq, Bool.true_eq_false, decide_true, decide_false]
    refine ⟨none, dget_T hp wJoin none rfl, ?_⟩
    rw [if_neg (by decide)]
    refine ⟨rfl, _, hq1, _, at1 _ _ _, rfl, ?_⟩
    cases t with
    | nil =>
      rw [if_neg (fun z => z rfl)]
      refine disp_T signR rfl (by decide) fun p2 H2 s2 hp2 => ?_
      simp only [tSeq, tAsg, tAnd, tOr, tNot, tTest, tB, tOp, tUn, tCB, tCons, tNil, tVar, tC, gName, rI0, rI, rU, rEq, rNe, rIxS, rIxL, rIxT, tRet, tRetN, tTup, tLst, tSl, tPart, tNoPart, rSlS, tIf, tIfS, tNext, tDrop, tCall, tBM, tBM0, tAndV, tOrV, tNotV, tM0, tM1, gSub, rSetL, sFld, gCons_eq, gNil_eq, tCallS_eq, tDGet, sDPut, tMeth, tMake, tFld, tChain, tIsN, tNotN,
  List.set_cons_zero, List.set_cons_succ, exists_eq_left', exists_eq_left, exists_eq, V.int.injEq, V.str.injEq, V.bl.injEq, V.ref.injEq, List.cons.injEq, and_true, true_and, List.getElem?_cons_zero, List.getElem?_cons_succ, Option.some.injEq, List.append_nil, exists_and_left, cxOf_K, false_and, and_false, exists_false, false_or, or_false, exists_eq', exists_const, sg_eq, S_eq, S_toList, S_ne, tFor_eq, tLc_eq, iList_eq, iTup_eq, iRng1_eq, iStr_eq, decide_eq_true_eq, Bool.not_eq_true', decide_eq_false_iff_not, if_true, if_false, Bool.false_eq_true, reduceCtorEq, Bool.true_eq_false, decide_true, decide_false]
      refine ⟨_, dget_T hp2 wJoin (some (.str (S [94]))) rfl, _, rfl, (size_le (by (try simp only [S_len, List.length_append, List.length_cons, List.length_nil]); omega)), _, same_t s2 hq1, _, at1 _ _ _, _, rfl, ?_⟩
      rw [S_cat]
      refine ⟨(size_le (by (try simp only [S_len, List.length_append, List.length_cons, List.length_nil]); omega)), ?_⟩
      rw [S_cat]
      refine ⟨(size_le (by (try simp only [S_len, List.length_append, List.length_cons, List.length_nil]); omega)), ?_⟩
      rw [S_cat]
      exact k _ (s1.trans s2)
    | cons c t =>
      rw [List.length_cons] at h16
      rw [if_pos (fun z => List.cons_ne_nil _ _ (S_inj (V.str.inj z)))]
      have at2 : ∀ b : Bool, atI [V.str (S []), V.str (S [94])] (if b = true then 1 else 0) = some (.str (S (if b = true then [94] else []))) := fun b => by cases b <;> rfl
      have l1 : ∀ b : Bool, (if b = true then [94] else [] : Tx).length ≤ 1 := fun b => by cases b <;> decide
      have ll := l1 l
      have lr := l1 r
      refine ⟨(size_le (by simp only [List.length_cons, List.length_nil]; decide)), ?_⟩
      (intro p2 np2; generalize hqp2 : upd H1 p2 _ = H2; obtain ⟨s2, f2⟩ := al_ np2 hqp2; clear hqp2)
      have hq2 := same_t s2 hq1
      refine ⟨_, hq2, _, atI_nat (j := 2) rfl, .inr ⟨l, rfl, _, sq_of f2, _, at2 l, _, rfl, (size_le (by (try simp only [S_len, List.length_append, List.length_cons, List.length_nil]); omega)), _, hq2, _, at1 _ _ _, _, rfl, ?_⟩⟩
      rw [S_cat]
      refine ⟨(size_le (by (try simp only [S_len, List.length_append, List.length_cons, List.length_nil]); omega)), (size_le (by simp only [List.length_cons, List.length_nil]; decide)), ?_⟩
      (intro p3 np3; generalize hqp3 : upd H2 p3 _ = H3; obtain ⟨s3, f3⟩ := al_ np3 hqp3; clear hqp3)
      have hq3 := same_t s3 hq2
      refine ⟨_, hq3, _, atI_nat (j := 3) rfl, .inr ⟨r, rfl, _, sq_of f3, _, at2 r, _, rfl, ?_⟩⟩
      rw [S_cat]
      refine ⟨(size_le (by (try simp only [S_len, List.length_append, List.length_cons, List.length_nil]); omega)), ?_⟩
      rw [S_cat]
      refine ⟨(size_le (by (try simp only [S_len, List.length_append, List.length_cons, List.length_nil]); omega)), ?_⟩
      rw [S_cat]
      exact k _ ((s1.trans s2).trans s3)
  | great =>
    obtain ⟨q, rfl, hq⟩ := dp1 hd
    simp only [tSeq, tAsg, tAnd, tOr, tNot, tTest, tB, tOp, tUn, tCB, tCons, tNil, tVar, tC, gName, rI0, rI, rU, rEq, rNe, rIxS, rIxL, rIxT, tRet, tRetN, tTup, tLst, tSl, tPart, tNoPart, rSlS, tIf, tIfS, tNext, tDrop, tCall, tBM, tBM0, tAndV, tOrV, tNotV, tM0, tM1, gSub, rSetL, sFld, gCons_eq, gNil_eq, tCallS_eq, tDGet, sDPut, tMeth, tMake, tFld, tChain, tIsN, tNotN,
  List.set_cons_zero, List.set_cons_succ, exists_eq_left', exists_eq_left, exists_eq, V.int.injEq, V.str.injEq, V.bl.injEq, V.ref.injEq, List.cons.injEq, and_true, true_and, List.getElem?_cons_zero, List.getElem?_cons_succ, Option.some.injEq, List.append_nil, exists_and_left, cxOf_K, false_and, and_false, exists_false, false_or, or_false, exists_eq', exists_const, sg_eq, S_eq, S_toList, S_ne, tFor_eq, tLc_eq, iList_eq, iTup_eq, iRng1_eq, iStr_eq, decide_eq_true_eq, Bool.not_eq_true', decide_eq_false_iff_not, if_true, if_false, Bool.false_eq_true, reduceCtorEq, Bool.true_eq_false, decide_true, decide_false]
    refine ⟨_, hq, _, at0 _ _, rfl, ?_⟩
    rw [if_neg (by decide)]
    refine disp_T bareR rfl (by decide) fun p H1 s1 hp => ?_
    have hq1 := same_t s1 hq
    simp only [tDIn, tSeq, tAsg, tAnd, tOr, tNot, tTest, tB, tOp, tUn, tCB, tCons, tNil, tVar, tC, gName, rI0, rI, rU, rEq, rNe, rIxS, rIxL, rIxT, tRet, tRetN, tTup, tLst, tSl, tPart, tNoPart, rSlS, tIf, tIfS, tNext, tDrop, tCall, tBM, tBM0, tAndV, tOrV, tNotV, tM0, tM1, gSub, rSetL, sFld, gCons_eq, gNil_eq, tCallS_eq, tDGet, sDPut, tMeth, tMake, tFld, tChain, tIsN, tNotN,
  List.set_cons_zero, List.set_cons_succ, exists_eq_left', exists_eq_left, exists_eq, V.int.injEq, V.str.injEq, V.bl.injEq, V.ref.injEq, List.cons.injEq, and_true, true_and, List.getElem?_cons_zero, List.getElem?_cons_succ, Option.some.injEq, List.append_nil, exists_and_left, cxOf_K, false_and, and_false, exists_false, false_or, or_false, exists_eq', exists_const, sg_eq, S_eq, S_toList, S_ne, tFor_eq, tLc_eq, iList_eq, iTup_eq, iRng1_eq, iStr_eq, decide_eq_true_eq, Bool.not_eq_true', decide_eq_false_iff_not, if_true, if_false, Bool.false_eq_true, reduceCtorEq, Bool.true_eq_false, decide_true, decide_false]
    refine ⟨some (.str (S (aText .great))), dget_T hp wGreat _ rfl, ?_⟩
    simp only [Option.isSome_some, if_true]
    exact ⟨_, dget_T hp wGreat _ rfl, k _ s1⟩
  | all =>
    obtain ⟨q, rfl, hq⟩ := dp1 hd
    simp only [tSeq, tAsg, tAnd, tOr, tNot, tTest, tB, tOp, tUn, tCB, tCons, tNil, tVar, tC, gName, rI0, rI, rU, rEq, rNe, rIxS, rIxL, rIxT, tRet, tRetN, tTup, tLst, tSl, tPart, tNoPart, rSlS, tIf, tIfS, tNext, tDrop, tCall, tBM, tBM0, tAndV, tOrV, tNotV, tM0, tM1, gSub, rSetL, sFld, gCons_eq, gNil_eq, tCallS_eq, tDGet, sDPut, tMeth, tMake, tFld, tChain, tIsN, tNotN,
  List.set_cons_zero, List.set_cons_succ, exists_eq_left', exists_eq_left, exists_eq, V.int.injEq, V.str.injEq, V.bl.injEq, V.ref.injEq, List.cons.injEq, and_true, true_and, List.getElem?_cons_zero, List.getElem?_cons_succ, Option.some.injEq, List.append_nil, exists_and_left, cxOf_K, false_and, and_false, exists_false, false_or, or_false, exists_eq', exists_const, sg_eq, S_eq, S_toList, S_ne, tFor_eq, tLc_eq, iList_eq, iTup_eq, iRng1_eq, iStr_eq, decide_eq_true_eq, Bool.not_eq_true', decide_eq_false_iff_not, if_true, if_false, Bool.false_eq_true, reduceCtorEq, Bool.true_eq_false, decide_true, decide_false]
    refine ⟨_, hq, _, at0 _ _, rfl, ?_⟩
    rw [if_neg (by decide)]
    refine disp_T bareR rfl (by decide) fun p H1 s1 hp => ?_
    have hq1 := same_t s1 hq
    simp only [tDIn, tSeq, tAsg, tAnd, tOr, tNot, tTest, tB, tOp, tUn, tCB, tCons, tNil, tVar, tC, gName, rI0, rI, rU, rEq, rNe, rIxS, rIxL, rIxT, tRet, tRetN, tTup, tLst, tSl, tPart, tNoPart, rSlS, tIf, tIfS, tNext, tDrop, tCall, tBM, tBM0, tAndV, tOrV, tNotV, tM0, tM1, gSub, rSetL, sFld, gCons_eq, gNil_eq, tCallS_eq, tDGet, sDPut, tMeth, tMake, tFld, tChain, tIsN, tNotN,
  List.set_cons_zero, List.set_cons_succ, exists_eq_left', exists_eq_left, exists_eq, V.int.injEq, V.str.injEq, V.bl.injEq, V.ref.injEq, List.cons.injEq, and_true, true_and, List.getElem?_cons_zero, List.getElem?_cons_succ, Option.some.injEq, List.append_nil, exists_and_left, cxOf_K, false_and, and_false, exists_false, false_or, or_false, exists_eq', exists_const, sg_eq, S_eq, S_toList, S_ne, tFor_eq, tLc_eq, iList_eq, iTup_eq, iRng1_eq, iStr_eq, decide_eq_true_eq, Bool.not_eq_true', decide_eq_false_iff_not, if_true, if_false, Bool.false_eq_true, reduceCtorEq, Bool.true_eq_false, decide_true, decide_false]
    refine ⟨some (.str (S (aText .all))), dget_T hp wAll _ rfl, ?_⟩
    simp only [Option.isSome_some, if_true]
    exact ⟨_, dget_T hp wAll _ rfl, k _ s1⟩
  | last =>
    obtain ⟨q, rfl, hq⟩ := dp1 hd
    simp only [tSeq, tAsg, tAnd, tOr, tNot, tTest, tB, tOp, tUn, tCB, tCons, tNil, tVar, tC, gName, rI0, rI, rU, rEq, rNe, rIxS, rIxL, rIxT, tRet, tRetN, tTup, tLst, tSl, tPart, tNoPart, rSlS, tIf, tIfS, tNext, tDrop, tCall, tBM, tBM0, tAndV, tOrV, tNotV, tM0, tM1, gSub, rSetL, sFld, gCons_eq, gNil_eq, tCallS_eq, tDGet, sDPut, tMeth, tMake, tFld, tChain, tIsN, tNotN,
  List.set_cons_zero, List.set_cons_succ, exists_eq_left', exists_eq_left, exists_eq, V.int.injEq, V.str.injEq, V.bl.injEq, V.ref.injEq, List.cons.injEq, and_true, true_and, List.getElem?_cons_zero, List.getElem?_cons_succ, Option.some.injEq, List.append_nil, exists_and_left, cxOf_K, false_and, and_false, exists_false, false_or, or_false, exists_eq', exists_const, sg_eq, S_eq, S_toList, S_ne, tFor_eq, tLc_eq, iList_eq, iTup_eq, iRng1_eq, iStr_eq, decide_eq_true_eq, Bool.not_eq_true', decide_eq_false_iff_not, if_true, if_false, Bool.false_eq_true, reduceCtorEq, Bool.true_eq_false, decide_true, decide_false]
    refine ⟨_, hq, _, at0 _ _, rfl, ?_⟩
    rw [if_neg (by decide)]
    refine disp_T bareR rfl (by decide) fun p H1 s1 hp => ?_
    have hq1 := same_t s1 hq
    simp only [tDIn, tSeq, tAsg, tAnd, tOr, tNot, tTest, tB, tOp, tUn, tCB, tCons, tNil, tVar, tC, gName, rI0, rI, rU, rEq, rNe, rIxS, rIxL, rIxT, tRet, tRetN, tTup, tLst, tSl, tPart, tNoPart, rSlS, tIf, tIfS, tNext, tDrop, tCall, tBM, tBM0, tAndV, tOrV, tNotV, tM0, tM1, gSub, rSetL, sFld, gCons_eq, gNil_eq, tCallS_eq, tDGet, sDPut, tMeth, tMake, tFld, tChain, tIsN, tNotN,
  List.set_cons_zero, List.set_cons_succ, exists_eq_left', exists_eq_left, exists_eq, V.int.injEq, V.str.injEq, V.bl.injEq, V.ref.injEq, List.cons.injEq, and_true, true_and, List.getElem?_cons_zero, List.getElem?_cons_succ, Option.some.injEq, List.append_nil, exists_and_left, cxOf_K, false_and, and_false, exists_false, false_or, or_false, exists_eq', exists_const, sg_eq, S_eq, S_toList, S_ne, tFor_eq, tLc_eq, iList_eq, iTup_eq, iRng1_eq, iStr_eq, decide_eq_true_eq, Bool.not_eq_true', decide_eq_false_iff_not, if_true, if_false, Bool.false_eq_true, reduceCtorEq, Bool.true_eq_false, decide_true, decide_false]
    refine ⟨some (.str (S (aText .last))), dget_T hp wLast _ rfl, ?_⟩
    simp only [Option.isSome_some, if_true]
    exact ⟨_, dget_T hp wLast _ rfl, k _ s1⟩
  | back =>
    obtain ⟨q, rfl, hq⟩ := dp1 hd
    simp only [tSeq, tAsg, tAnd, tOr, tNot, tTest, tB, tOp, tUn, tCB, tCons, tNil, tVar, tC, gName, rI0, rI, rU, rEq, rNe, rIxS, rIxL, rIxT, tRet, tRetN, tTup, tLst, tSl, tPart, tNoPart, rSlS, tIf, tIfS, tNext, tDrop, tCall, tBM, tBM0, tAndV, tOrV, tNotV, tM0, tM1, gSub, rSetL, sFld, gCons_eq, gNil_eq, tCallS_eq, tDGet, sDPut, tMeth, tMake, tFld, tChain, tIsN, tNotN,
  List.set_cons_zero, List.set_cons_succ, exists_eq_left', exists_eq_left, exists_eq, V.int.injEq, V.str.injEq, V.bl.injEq, V.ref.injEq, List.cons.injEq, and_true, true_and, List.getElem?_cons_zero, List.getElem?_cons_succ, Option.some.injEq, List.append_nil, exists_and_left, cxOf_K, false_and, and_false, exists_false, false_or, or_false, exists_eq', exists_const, sg_eq, S_eq, S_toList, S_ne, tFor_eq, tLc_eq, iList_eq, iTup_eq, iRng1_eq, iStr_eq, decide_eq_true_eq, Bool.not_eq_true', decide_eq_false_iff_not, if_true, if_false, Bool.false_eq_true, reduceCtorEq, Bool.true_eq_false, decide_true, decide_false]
    refine ⟨_, hq, _, at0 _ _, rfl, ?_⟩
    rw [if_neg (by decide)]
    refine disp_T bareR rfl (by decide) fun p H1 s1 hp => ?_
    have hq1 := same_t s1 hq
    simp only [tDIn, tSeq, tAsg, tAnd, tOr, tNot, tTest, tB, tOp, tUn, tCB, tCons, tNil, tVar, tC, gName, rI0, rI, rU, rEq, rNe, rIxS, rIxL, rIxT, tRet, tRetN, tTup, tLst, tSl, tPart, tNoPart, rSlS, tIf, tIfS, tNext, tDrop, tCall, tBM, tBM0, tAndV, tOrV, tNotV, tM0, tM1, gSub, rSetL, sFld, gCons_eq, gNil_eq, tCallS_eq, tDGet, sDPut, tMeth, tMake, tFld, tChain, tIsN, tNotN,
  List.set_cons_zero, List.set_cons_succ, exists_eq_left', exists_eq_left, exists_eq, V.int.injEq, V.str.injEq, V.bl.injEq, V.ref.injEq, List.cons.injEq, and_true, true_and, List.getElem?_cons_zero, List.getElem?_cons_succ, Option.some.injEq, List.append_nil, exists_and_left, cxOf_K, false_and, and_false, exists_false, false_or, or_false, exists_eq', exists_const, sg_eq, S_eq, S_toList, S_ne, tFor_eq, tLc_eq, iList_eq, iTup_eq, iRng1_eq, iStr_eq, decide_eq_true_eq, Bool.not_eq_true', decide_eq_false_iff_not, if_true, if_false, Bool.false_eq_true, reduceCtorEq, Bool.true_eq_false, decide_true, decide_false]
    refine ⟨some (.str (S (aText .back))), dget_T hp wBack _ rfl, ?_⟩
    simp only [Option.isSome_some, if_true]
    exact ⟨_, dget_T hp wBack _ rfl, k _ s1⟩
  | again =>
    obtain ⟨q, rfl, hq⟩ := dp1 hd
    simp only [tSeq, tAsg, tAnd, tOr, tNot, tTest, tB, tOp, tUn, tCB, tCons, tNil, tVar, tC, gName, rI0, rI, rU, rEq, rNe, rIxS, rIxL, rIxT, tRet, tRetN, tTup, tLst, tSl, tPart, tNoPart, rSlS, tIf, tIfS, tNext, tDrop, tCall, tBM, tBM0, tAndV, tOrV, tNotV, tM0, tM1, gSub, rSetL, sFld, gCons_eq, gNil_eq, tCallS_eq, tDGet, sDPut, tMeth, tMake, tFld, tChain, tIsN, tNotN,
  List.set_cons_zero, List.set_cons_succ, exists_eq_left', exists_eq_left, exists_eq, V.int.injEq, V.str.injEq, V.bl.injEq, V.ref.injEq, List.cons.injEq, and_true, true_and, List.getElem?_cons_zero, List.getElem?_cons_succ, Option.some.injEq, List.append_nil, exists_and_left, cxOf_K, false_and, and_false, exists_false, false_or, or_false, exists_eq', exists_const, sg_eq, S_eq, S_toList, S_ne, tFor_eq, tLc_eq, iList_eq, iTup_eq, iRng1_eq, iStr_eq, decide_eq_true_eq, Bool.not_eq_true', decide_eq_false_iff_not, if_true, if_false, Bool.false_eq_true, reduceCtorEq, Bool.true_eq_false, decide_true, decide_false]
    refine ⟨_, hq, _, at0 _ _, rfl, ?_⟩
    rw [if_neg (by decide)]
    refine disp_T bareR rfl (by decide) fun p H1 s1 hp => ?_
    have hq1 := same_t s1 hq
    simp only [tDIn, tSeq, tAsg, tAnd, tOr, tNot, tTest, tB, tOp, tUn, tCB, tCons, tNil, tVar, tC, gName, rI0, rI, rU, rEq, rNe, rIxS, rIxL, rIxT, tRet, tRetN, tTup, tLst, tSl, tPart, tNoPart, rSlS, tIf, tIfS, tNext, tDrop, tCall, tBM, tBM0, tAndV, tOrV, tNotV, tM0, tM1, gSub, rSetL, sFld, gCons_eq, gNil_eq, tCallS_eq, tDGet, sDPut, tMeth, tMake, tFld, tChain, tIsN, tNotN,
  List.set_cons_zero, List.set_cons_succ, exists_eq_left', exists_eq_left, exists_eq, V.int.injEq, V.str.injEq, V.bl.injEq, V.ref.injEq, List.cons.injEq, and_true, true_and, List.getElem?_cons_zero, List.getElem?_cons_succ, Option.some.injEq, List.append_nil, exists_and_left, cxOf_K, false_and, and_false, exists_false, false_or, or_false, exists_eq', exists_const, sg_eq, S_eq, S_toList, S_ne, tFor_eq, tLc_eq, iList_eq, iTup_eq, iRng1_eq, iStr_eq, decide_eq_true_eq, Bool.not_eq_true', decide_eq_false_iff_not, if_true, if_false, Bool.false_eq_true, reduceCtorEq, Bool.true_eq_false, decide_true, decide_false]
    refine ⟨some (.str (S (aText .again))), dget_T hp wAgain _ rfl, ?_⟩
    simp only [Option.isSome_some, if_true]
    exact ⟨_, dget_T hp wAgain _ rfl, k _ s1⟩
theorem ok_letext {f : Addr} {fd : FuncData} (F : FunS K "_law_entry_text" s_l_entry_text f fd) (c_l_action_text : Cal P w K mg base CX0 1 "_law_action_text" (sp_atext K)) : FnOk P w K mg base CX0 2 f fd ["_law_entry_here"] (sp_etext K) := by
  refine F.ok sc_l_entry_text (fun vs H Q E h => ?_) (fun cdv A outer s H vs Q E hr h => ?_)
  · obtain ⟨v, a, rfl, _⟩ := h
    rfl
  obtain ⟨v, e, rfl, hd, ha, hl, k⟩ := h
  obtain ⟨q, xs, rfl, hq, hx⟩ := dp_tup hd
  have hxl := DpAll.len hx
  rw [List.length_map] at hxl
  refine ⟨_, PSs.nox (pss_one (ps_ret (pe_join pe_str (pe_lc (own := [("_law_action_here", 1)]) rfl sc_l_entry_text.nd (pi_tup (pv 0)) (blkOk_by (N := ["_law_entry_here", "_law_action_here"]) (sc := defScope s_l_entry_text) (own := [("_law_action_here", 1)]) (by decide +kernel)) (fun _ _ _ _ _ => (pg_name (i := 1) sc_l_entry_text.nd rfl (.inl rfl))) (fun _ _ _ _ _ => pts_nil) (fun _ _ _ _ _ => (pe_c c_l_action_text hr (by first | decide | omega) (by rfl) (pa_cons (pv 1) pa_nil))))))), ?_⟩
  simp only [tSeq, tAsg, tAnd, tOr, tNot, tTest, tB, tOp, tUn, tCB, tCons, tNil, tVar, tC, gName, rI0, rI, rU, rEq, rNe, rIxS, rIxL, rIxT, tRet, tRetN, tTup, tLst, tSl, tPart, tNoPart, rSlS, tIf, tIfS, tNext, tDrop, tCall, tBM, tBM0, tAndV, tOrV, tNotV, tM0, tM1, gSub, rSetL, sFld, gCons_eq, gNil_eq, tCallS_eq, tDGet, sDPut, tMeth, tMake, tFld, tChain, tIsN, tNotN,
  List.set_cons_zero, List.set_cons_succ, exists_eq_left', exists_eq_left, exists_eq, V.int.injEq, V.str.injEq, V.bl.injEq, V.ref.injEq, List.cons.injEq, and_true, true_and, List.getElem?_cons_zero, List.getElem?_cons_succ, Option.some.injEq, List.append_nil, exists_and_left, cxOf_K, false_and, and_false, exists_false, false_or, or_false, exists_eq', exists_const, sg_eq, S_eq, S_toList, S_ne, tFor_eq, tLc_eq, iList_eq, iTup_eq, iRng1_eq, iStr_eq, decide_eq_true_eq, Bool.not_eq_true', decide_eq_false_iff_not, if_true, if_false, Bool.false_eq_true, reduceCtorEq, Bool.true_eq_false, decide_true, decide_false, lit_32, start1_2]
  refine ⟨⟨_, hq⟩, fun L hL => ?_⟩
  refine comp_tup xs (fun r acc H' => Same H H' ∧ ∃ done todo : List Act, e = done ++ todo ∧ DpAll K H r (todo.map actD) ∧ acc = (done.map aText).map fun t => V.str (S t)) (by omega) ⟨same_new hL, [], e, rfl, hx, rfl⟩ upd_same (fun r acc H' h => same_t h.1 hq) ?_ ?_
  · rintro i x r acc H3 hA hn hi ⟨s3, done, todo, e1, hr, rfl⟩
    cases todo with
    | nil => cases hr
    | cons a todo =>
      cases hr
      rename_i ha1 hr1
      simp only [wipe, List.map_cons, List.map_nil, List.set_cons_succ, List.set_cons_zero, tSeq, tAsg, tAnd, tOr, tNot, tTest, tB, tOp, tUn, tCB, tCons, tNil, tVar, tC, gName, rI0, rI, rU, rEq, rNe, rIxS, rIxL, rIxT, tRet, tRetN, tTup, tLst, tSl, tPart, tNoPart, rSlS, tIf, tIfS, tNext, tDrop, tCall, tBM, tBM0, tAndV, tOrV, tNotV, tM0, tM1, gSub, rSetL, sFld, gCons_eq, gNil_eq, tCallS_eq, tDGet, sDPut, tMeth, tMake, tFld, tChain, tIsN, tNotN,
  List.set_cons_zero, List.set_cons_succ, exists_eq_left', exists_eq_left, exists_eq, V.int.injEq, V.str.injEq, V.bl.injEq, V.ref.injEq, List.cons.injEq, and_true, true_and, List.getElem?_cons_zero, List.getElem?_cons_succ, Option.some.injEq, List.append_nil, exists_and_left, cxOf_K, false_and, and_false, exists_false, false_or, or_false, exists_eq', exists_const, sg_eq, S_eq, S_toList, S_ne, tFor_eq, tLc_eq, iList_eq, iTup_eq, iRng1_eq, iStr_eq, decide_eq_true_eq, Bool.not_eq_true', decide_eq_false_iff_not, if_true, if_false, Bool.false_eq_true, reduceCtorEq, Bool.true_eq_false, decide_true, decide_false]
      unfold tYes
      simp only [if_true]
      refine ⟨x, a, rfl, Dp.ext s3 ha1, ha a (by rw [e1]; exact List.mem_append_right _ List.mem_cons_self), fun H4 s4 => cput (s4 _ _ hA) hn hi ⟨same_mut (s3.trans s4) hL, done ++ [a], todo, by rw [e1]; simp, hr1, by simp⟩⟩
  · rintro acc H3 hA hn ⟨s3, done, todo, e1, hr, rfl⟩
    cases todo with
    | cons a todo => cases hr
    | nil =>
    rw [List.append_nil] at e1
    subst e1
    have h20 : ∀ t ∈ e.map aText, t.length ≤ 20 := fun t ht => by
      obtain ⟨a, hm, rfl⟩ := List.mem_map.mp ht
      exact (aText_ok (ha a hm)).1
    have h1 := sum_len _ h20
    rw [List.length_map] at h1
    have h3 : (S [32]).length = 1 := rfl
    refine ⟨L, rfl, (e.map aText).map SX.S, .inl (sq_of (by rw [hA]; simp [Function.comp_def])), ?_, ?_⟩
    · rw [h3, List.length_map, List.length_map]
      omega
    · rw [join_ent]
      exact k _ s3
end
/-! ### defs that raise -/
structure CalX (P : Program) (w : World) (K : PySem.W.Frag) (mg : Str → Option Value) (base : Heap) (k : Nat) (x : Str) (sp : Sp) : Prop where
  ex : ∃ (f : Addr) (fd : FuncData) (ps : List Str), FnOk P w K mg base (L2.CX P w) k f fd ps sp ∧ mg x = some (.ref f) ∧ PySem.W.keepIn K (.ref f) = true ∧ Binds K fd ps []
theorem calX_of {P : Program} {w : World} {K : PySem.W.Frag} {mg : Str → Option Value} {base : Heap} {k : Nat} {x : Str} {st : Stmt} {f : Addr} {fd : FuncData} {ps : List Str} {sp : Sp} (F : FunS K x st f fd) (ok : FnOk P w K mg base (L2.CX P w) k f fd ps sp) (m : mg x = some (.ref f)) (b : Binds K fd ps []) :
    CalX P w K mg base k x sp := ⟨f, fd, ps, ok, m, F.kp, b⟩
section
variable {X : Cx} {k j : Nat} {x : Str} {sp : Sp} {p pos : Pos} {e : Expr} {es : List Expr} {t : TA}
/-- a call of such a def in a def that raises, too: what leaves the one leaves the other -/
theorem pe_cx {E : XK} (c : CalX X.prog X.w X.K X.mg X.base k x sp) (hr : Room j X.A) (hk : k ≤ j) (hg : Gl X x) (hp : Passes (L2.CX X.prog X.w) X E) (ha : PA X (e :: es) t)
    (hdb : (x == ("__debug__" : Str)) = false := by decide) (he : starEach (e :: es) X.env = (false, eval e X.env) :: starEach es X.env := by rfl) (hpl : (backTo pos (starEach es X.env)).any (·.1) = false := by rfl) :
    PE X (.Call (.Name x p) (e :: es) [] pos) (tCall sp [] E t) := by
  obtain ⟨f, fd, ps, F, hm, kp, b⟩ := c.ex
  exact pe_call F (hr.mono hk) hg hm kp b .nil hp ha hdb he hpl
/-- .. in a try's body -/
theorem pe_cs {W : WX} (c : CalX X.prog X.w X.K X.mg X.base k x sp) (hr : Room j X.A) (hk : k ≤ j) (hg : Gl X x) (tk : Takes X W) (ha : PA X (e :: es) t)
    (hdb : (x == ("__debug__" : Str)) = false := by decide) (he : starEach (e :: es) X.env = (false, eval e X.env) :: starEach es X.env := by rfl) (hpl : (backTo pos (starEach es X.env)).any (·.1) = false := by rfl) :
    PE X (.Call (.Name x p) (e :: es) [] pos) (tCallS sp (WE W) t) := by
  obtain ⟨f, fd, ps, F, hm, kp, b⟩ := c.ex
  exact pe_callS F (hr.mono hk) hg hm kp b (fun σ => passAt tk σ) ha hdb he hpl
theorem pss_and {q : Prop} {body : List Stmt} {t : TS} (h : q → PSs X body t) : PSs X body (fun D σ H => q ∧ t D σ H) := ⟨fun pins s σ H D I w => (h w.1).run pins s σ H D I w.2⟩
theorem zc_of {cls : Value} {d : Option Addr} {oe : Obj} {D : Addr} (h : cls = .ref D ∧ d = none) (hz : Zc cls d oe) : Zc (.ref D) none oe := by
  obtain ⟨rfl, rfl⟩ := h
  exact hz
theorem isE_K {K : PySem.W.Frag} {a D : Addr} {oe : Obj} {pn : List (Addr × Obj)} (e : X.K = K) (C : ExcC K D) (hz : Zc (.ref D) none oe) (hf : ∃ vs, oe.data = .fields vs) : CallR (X.suite a ((a, oe) :: pn)) (.builtin "isinstance") (rIsE K D a) := by
  subst e
  exact call_isE C hz hf
end
open He in
def excCB (K : PySem.W.Frag) (D : Addr) : Bool := eqO (PySem.W.findIn K (.ref D) "__getattribute__") (some (some (.builtin "BaseException.__getattribute__"))) && (eqO (PySem.W.findIn K (.ref D) "__getattr__") (some none) && (decide (PySem.W.subIn K (.ref D) (.type "BaseException") = some true) &&
  (PySem.W.hasDictIn K D && (eqO (PySem.W.findIn K (.ref D) "__class__") (some (some (.builtin "object.__class__"))) && (eqO (PySem.W.specialIn K (.builtin "object.__class__") "__get__") (some (some (.builtin "getset_descriptor.__get__"))) &&
  (decide (PySem.W.takesIn K (.builtin "object.__class__") = some true) && decide (PySem.W.mroIn K D (.type "object") = some true)))))))
theorem excCB_ok {K : PySem.W.Frag} {D : Addr} (h : excCB K D = true) : ExcC K D := by
  obtain ⟨h1, h⟩ := He.ba h
  obtain ⟨h2, h⟩ := He.ba h
  obtain ⟨h3, h⟩ := He.ba h
  obtain ⟨h4, h⟩ := He.ba h
  obtain ⟨h5, h⟩ := He.ba h
  obtain ⟨h6, h⟩ := He.ba h
  obtain ⟨h7, h8⟩ := He.ba h
  exact ⟨He.eqO_ok h1, He.eqO_ok h2, of_decide_eq_true h3, h4, He.eqO_ok h5, He.eqO_ok h6, of_decide_eq_true h7, of_decide_eq_true h8⟩
structure ExF (K : PySem.W.Frag) (mg : Str → Option Value) : Prop where
  g_ChordError : mg "ChordError" = some (.ref (He.ga K "ChordError"))
  g_BadStroke : mg "BadStroke" = some (.ref (He.ga K "BadStroke"))
  g_BadEntry : mg "BadEntry" = some (.ref (He.ga K "BadEntry"))
  g_BadBook : mg "BadBook" = some (.ref (He.ga K "BadBook"))
  x_BadEntry : PySem.W.excIn K (He.ga K "BadEntry") He.veBase "ValueError.__new__" = true
  k_BadEntry : PySem.W.keepIn K (.ref (He.ga K "BadEntry")) = true
  b_BadEntry : PySem.W.subIn K (.ref (He.ga K "BadEntry")) (.type "BaseException") = some true
  t_BadEntry : PySem.W.typeIn K (.ref (He.ga K "BadEntry")) = some (.type "type")
  c_BadEntry : ExcC K (He.ga K "BadEntry")
  m_ChordError : PySem.W.exmOne K (.ref (He.ga K "BadEntry")) (.ref (He.ga K "ChordError")) = some true
  q_ChordError : PySem.W.kitOne K (.ref (He.ga K "BadEntry")) (.ref (He.ga K "ChordError")) = some true
  m_BadStroke : PySem.W.exmOne K (.ref (He.ga K "BadEntry")) (.ref (He.ga K "BadStroke")) = some false
  q_BadStroke : PySem.W.kitOne K (.ref (He.ga K "BadEntry")) (.ref (He.ga K "BadStroke")) = some false
  m_BadEntry : PySem.W.exmOne K (.ref (He.ga K "BadEntry")) (.ref (He.ga K "BadEntry")) = some true
  q_BadEntry : PySem.W.kitOne K (.ref (He.ga K "BadEntry")) (.ref (He.ga K "BadEntry")) = some true
  m_BadBook : PySem.W.exmOne K (.ref (He.ga K "BadEntry")) (.ref (He.ga K "BadBook")) = some false
  q_BadBook : PySem.W.kitOne K (.ref (He.ga K "BadEntry")) (.ref (He.ga K "BadBook")) = some false
  q_ValueError : PySem.W.kitOne K (.ref (He.ga K "BadEntry")) (.type "ValueError") = some true
def exB (K : PySem.W.Frag) : Bool := excCB K (He.ga K "BadEntry") && (decide (PySem.W.kitOne K (.ref (He.ga K "BadEntry")) (.ref (He.ga K "ChordError")) = some true) && decide (PySem.W.kitOne K (.ref (He.ga K "BadEntry")) (.ref (He.ga K "BadStroke")) = some false) && decide (PySem.W.kitOne K (.ref (He.ga K "BadEntry")) (.ref (He.ga K "BadEntry")) = some true) && decide (PySem.W.kitOne K (.ref (He.ga K "BadEntry")) (.ref (He.ga K "BadBook")) = some false) && decide (PySem.W.kitOne K (.ref (He.ga K "BadEntry")) (.type "ValueError") = some true))
/-! ### what is read: a word, else BadEntry -/
abbrev signsT : Tx := [97, 98, 99, 100, 101, 102, 103, 104, 105, 106, 107, 108, 109, 110, 111, 112, 113, 114, 115, 116, 117, 118, 119, 120, 121, 122, 48, 49, 50, 51, 52, 53, 54, 55, 56, 57, 39, 45]
theorem wsign_mem : ∀ c, c < 128 → wsign c = decide (c ∈ signsT) := by decide +kernel
abbrev CBad (K : PySem.W.Frag) : Value := .ref (He.ga K "BadEntry")
/-- only a word is let by; what is raised is BadEntry -/
def sp_nwordX (K : PySem.W.Frag) : Sp := fun vs H Q E => ∃ t : Tx, vs = [.str (S t)] ∧ asc t ∧ t.length ≤ 1000 ∧ (wordOk t → Q .non H) ∧ E (CBad K) none H
abbrev s_need_word : Stmt := (top 11)
theorem sc_need_word : FnScope ["text", "sign"] ["text"] (defScope s_need_word) := ⟨rfl, rfl, rfl, by decide +kernel, rfl, by decide +kernel, by decide +kernel⟩

section
variable {P : Program} {w : World} {K : PySem.W.Frag} {mg : Str → Option Value} {base : Heap}
theorem ok_nwordX {f : Addr} {fd : FuncData} (F : FunS K "need_word" s_need_word f fd) (b_len : mg "len" = none) (g_MOST_WORD : ∃ u, mg "MOST_WORD" = some u ∧ RelV (.int 16) u) (g_WORD_SIGNS : ∃ u, mg "WORD_SIGNS" = some u ∧ RelV (.str (S [97, 98, 99, 100, 101, 102, 103, 104, 105, 106, 107, 108, 109, 110, 111, 112, 113, 114, 115, 116, 117, 118, 119, 120, 121, 122, 48, 49, 50, 51, 52, 53, 54, 55, 56, 57, 39, 45])) u) (ex : ExF K mg) : FnOk P w K mg base (L2.CX P w) 1 f fd ["text"] (sp_nwordX K) := by
  refine F.ok sc_need_word (fun vs H Q E h => ?_) (fun cdv A outer s H vs Q E hr h => ?_)
  · obtain ⟨t, rfl, _⟩ := h
    rfl
  obtain ⟨t, rfl, ta, tl, k, ke⟩ := h
  refine ⟨_, (pss_cons (ps_if (pt_not (pt_chain op_le op_le pe_int (pe_callB call_len_str (by rfl) b_len PySem.boot_len (pa_cons (pv 0) pa_nil)) (pe_gc (by rfl) g_MOST_WORD)))
    (pss_one (ps_raise rfl (takes_of rfl rfl rfl rfl) (pmk_own PySem.F.excBase_ValueError ex.x_BadEntry ex.g_BadEntry ex.k_BadEntry (raises_own ex.b_BadEntry ex.t_BadEntry) rfl)))
    pss_nil)
  (pss_one (ps_for (passes_of rfl) rfl (pi_str (pv 0)) (pg_name (i := 1) sc_need_word.nd rfl (.inl rfl))
    (pss_one (ps_if (pt_cmpR op_notIn_sign (pv 1) (pe_gc (by rfl) g_WORD_SIGNS) rfl)
    (pss_one (ps_raise rfl (takes_of rfl rfl rfl rfl) (pmk_own PySem.F.excBase_ValueError ex.x_BadEntry ex.g_BadEntry ex.k_BadEntry (raises_own ex.b_BadEntry ex.t_BadEntry) rfl)))
    pss_nil))))), ?_⟩
  simp only [tSeq, tAsg, tAnd, tOr, tNot, tTest, tB, tOp, tUn, tCB, tCons, tNil, tVar, tC, gName, rI0, rI, rU, rEq, rNe, rIxS, rIxL, rIxT, tRet, tRetN, tTup, tLst, tSl, tPart, tNoPart, rSlS, tIf, tNext, tDrop, tCall, tBM, tBM0, tAndV, tOrV, tNotV, tM0, tM1, gSub, rSetL, sFld, gCons_eq, gNil_eq, tCallS_eq, tDGet, sDPut, tMeth, tMake, tFld, tChain, tIsN, tNotN,
  List.set_cons_zero, List.set_cons_succ, exists_eq_left', exists_eq_left, exists_eq, V.int.injEq, V.str.injEq, V.bl.injEq, V.ref.injEq, List.cons.injEq, and_true, true_and, List.getElem?_cons_zero, List.getElem?_cons_succ, Option.some.injEq, List.append_nil, exists_and_left, cxOf_K, false_and, and_false, exists_false, false_or, or_false, exists_eq', exists_const, sg_eq, S_eq, S_toList, S_ne, tFor_eq, tLc_eq, iList_eq, iTup_eq, iRng1_eq, iStr_eq, decide_eq_true_eq, Bool.not_eq_true', decide_eq_false_iff_not, if_true, if_false, Bool.false_eq_true, reduceCtorEq, Bool.true_eq_false, decide_true, decide_false, lit_110_111_32_119_111_114_100_44_32_111_114_32_116_111_111_32_108_111_110_103, lit_110_111_32_115_105_103_110_32_111_102_32_97_32_119_111_114_100, start1_2]
  refine if_pure (!decide (1 ≤ t.length ∧ t.length ≤ 16)) (fun R rr => ?_) (fun _ => ke) (fun e => ?_)
  · simp only [tSeq, tAsg, tAnd, tOr, tNot, tTest, tB, tOp, tUn, tCB, tCons, tNil, tVar, tC, gName, rI0, rI, rU, rEq, rNe, rIxS, rIxL, rIxT, tRet, tRetN, tTup, tLst, tSl, tPart, tNoPart, rSlS, tIf, tIfS, tNext, tDrop, tCall, tBM, tBM0, tAndV, tOrV, tNotV, tM0, tM1, gSub, rSetL, sFld, gCons_eq, gNil_eq, tCallS_eq, tDGet, sDPut, tMeth, tMake, tFld, tChain, tIsN, tNotN,
  List.set_cons_zero, List.set_cons_succ, exists_eq_left', exists_eq_left, exists_eq, V.int.injEq, V.str.injEq, V.bl.injEq, V.ref.injEq, List.cons.injEq, and_true, true_and, List.getElem?_cons_zero, List.getElem?_cons_succ, Option.some.injEq, List.append_nil, exists_and_left, cxOf_K, false_and, and_false, exists_false, false_or, or_false, exists_eq', exists_const, sg_eq, S_eq, S_toList, S_ne, tFor_eq, tLc_eq, iList_eq, iTup_eq, iRng1_eq, iStr_eq, decide_eq_true_eq, Bool.not_eq_true', decide_eq_false_iff_not, if_true, if_false, Bool.false_eq_true, reduceCtorEq, Bool.true_eq_false, decide_true, decide_false]
    refine ⟨size_le (by rw [S_len]; omega), ?_⟩
    rw [S_len]
    by_cases h1 : (1 : Int) ≤ t.length
    · rw [if_pos h1]
      have e9 : decide (1 ≤ t.length ∧ t.length ≤ 16) = decide ((t.length : Int) ≤ 16) := by
        rw [Bool.eq_iff_iff]
        simp
        omega
      rw [e9] at rr
      exact rr
    · rw [if_neg h1]
      have e9 : decide (1 ≤ t.length ∧ t.length ≤ 16) = false := decide_eq_false (by omega)
      rw [e9] at rr
      exact rr
  · have hlen : 1 ≤ t.length ∧ t.length ≤ 16 := by simpa using e
    simp only [tSeq, tAsg, tAnd, tOr, tNot, tTest, tB, tOp, tUn, tCB, tCons, tNil, tVar, tC, gName, rI0, rI, rU, rEq, rNe, rIxS, rIxL, rIxT, tRet, tRetN, tTup, tLst, tSl, tPart, tNoPart, rSlS, tIf, tNext, tDrop, tCall, tBM, tBM0, tAndV, tOrV, tNotV, tM0, tM1, gSub, rSetL, sFld, gCons_eq, gNil_eq, tCallS_eq, tDGet, sDPut, tMeth, tMake, tFld, tChain, tIsN, tNotN,
  List.set_cons_zero, List.set_cons_succ, exists_eq_left', exists_eq_left, exists_eq, V.int.injEq, V.str.injEq, V.bl.injEq, V.ref.injEq, List.cons.injEq, and_true, true_and, List.getElem?_cons_zero, List.getElem?_cons_succ, Option.some.injEq, List.append_nil, exists_and_left, cxOf_K, false_and, and_false, exists_false, false_or, or_false, exists_eq', exists_const, sg_eq, S_eq, S_toList, S_ne, tFor_eq, tLc_eq, iList_eq, iTup_eq, iRng1_eq, iStr_eq, decide_eq_true_eq, Bool.not_eq_true', decide_eq_false_iff_not, if_true, if_false, Bool.false_eq_true, reduceCtorEq, Bool.true_eq_false, decide_true, decide_false]
    refine loop_str t (fun rest σ H' => H' = H ∧ ∃ (done : Tx) (y2 : Option V), t = done ++ rest ∧ σ = [some (.str (S t)), y2] ∧ ∀ c ∈ done, wsign c = true) ⟨rfl, [], none, rfl, rfl, fun _ z => nomatch z⟩ ?_ ?_
    · rintro c r σ _ ⟨rfl, done, y2, e, rfl, hd⟩
      simp only [tSeq, tAsg, tAnd, tOr, tNot, tTest, tB, tOp, tUn, tCB, tCons, tNil, tVar, tC, gName, rI0, rI, rU, rEq, rNe, rIxS, rIxL, rIxT, tRet, tRetN, tTup, tLst, tSl, tPart, tNoPart, rSlS, tIf, tNext, tDrop, tCall, tBM, tBM0, tAndV, tOrV, tNotV, tM0, tM1, gSub, rSetL, sFld, gCons_eq, gNil_eq, tCallS_eq, tDGet, sDPut, tMeth, tMake, tFld, tChain, tIsN, tNotN,
  List.set_cons_zero, List.set_cons_succ, exists_eq_left', exists_eq_left, exists_eq, V.int.injEq, V.str.injEq, V.bl.injEq, V.ref.injEq, List.cons.injEq, and_true, true_and, List.getElem?_cons_zero, List.getElem?_cons_succ, Option.some.injEq, List.append_nil, exists_and_left, cxOf_K, false_and, and_false, exists_false, false_or, or_false, exists_eq', exists_const, sg_eq, S_eq, S_toList, S_ne, tFor_eq, tLc_eq, iList_eq, iTup_eq, iRng1_eq, iStr_eq, decide_eq_true_eq, Bool.not_eq_true', decide_eq_false_iff_not, if_true, if_false, Bool.false_eq_true, reduceCtorEq, Bool.true_eq_false, decide_true, decide_false]
      have hc : c < 128 := ta c (by rw [e]; exact List.mem_append_right _ List.mem_cons_self)
      refine if_pure (!wsign c) (fun R rr => ?_) (fun _ => ke) (fun e2 => ?_)
      · simp only [tSeq, tAsg, tAnd, tOr, tNot, tTest, tB, tOp, tUn, tCB, tCons, tNil, tVar, tC, gName, rI0, rI, rU, rEq, rNe, rIxS, rIxL, rIxT, tRet, tRetN, tTup, tLst, tSl, tPart, tNoPart, rSlS, tIf, tIfS, tNext, tDrop, tCall, tBM, tBM0, tAndV, tOrV, tNotV, tM0, tM1, gSub, rSetL, sFld, gCons_eq, gNil_eq, tCallS_eq, tDGet, sDPut, tMeth, tMake, tFld, tChain, tIsN, tNotN,
  List.set_cons_zero, List.set_cons_succ, exists_eq_left', exists_eq_left, exists_eq, V.int.injEq, V.str.injEq, V.bl.injEq, V.ref.injEq, List.cons.injEq, and_true, true_and, List.getElem?_cons_zero, List.getElem?_cons_succ, Option.some.injEq, List.append_nil, exists_and_left, cxOf_K, false_and, and_false, exists_false, false_or, or_false, exists_eq', exists_const, sg_eq, S_eq, S_toList, S_ne, tFor_eq, tLc_eq, iList_eq, iTup_eq, iRng1_eq, iStr_eq, decide_eq_true_eq, Bool.not_eq_true', decide_eq_false_iff_not, if_true, if_false, Bool.false_eq_true, reduceCtorEq, Bool.true_eq_false, decide_true, decide_false]
        rw [← wsign_mem c hc]
        exact rr
      · simp only [tSeq, tAsg, tAnd, tOr, tNot, tTest, tB, tOp, tUn, tCB, tCons, tNil, tVar, tC, gName, rI0, rI, rU, rEq, rNe, rIxS, rIxL, rIxT, tRet, tRetN, tTup, tLst, tSl, tPart, tNoPart, rSlS, tIf, tIfS, tNext, tDrop, tCall, tBM, tBM0, tAndV, tOrV, tNotV, tM0, tM1, gSub, rSetL, sFld, gCons_eq, gNil_eq, tCallS_eq, tDGet, sDPut, tMeth, tMake, tFld, tChain, tIsN, tNotN,
  List.set_cons_zero, List.set_cons_succ, exists_eq_left', exists_eq_left, exists_eq, V.int.injEq, V.str.injEq, V.bl.injEq, V.ref.injEq, List.cons.injEq, and_true, true_and, List.getElem?_cons_zero, List.getElem?_cons_succ, Option.some.injEq, List.append_nil, exists_and_left, cxOf_K, false_and, and_false, exists_false, false_or, or_false, exists_eq', exists_const, sg_eq, S_eq, S_toList, S_ne, tFor_eq, tLc_eq, iList_eq, iTup_eq, iRng1_eq, iStr_eq, decide_eq_true_eq, Bool.not_eq_true', decide_eq_false_iff_not, if_true, if_false, Bool.false_eq_true, reduceCtorEq, Bool.true_eq_false, decide_true, decide_false]
        refine ⟨done ++ [c], by rw [e]; simp, fun x hx => ?_⟩
        rcases List.mem_append.mp hx with hx | hx
        · exact hd x hx
        · rw [List.mem_singleton.mp hx]
          simpa using e2
    · rintro σ _ ⟨rfl, done, y2, e, rfl, hd⟩
      rw [List.append_nil] at e
      exact k ⟨hlen.1, hlen.2, by rw [e]; exact hd⟩
end
/-! ### what is read: an action, else BadEntry -/
theorem bare_act {t nm : Tx} (h : bareN t = some nm) : ∃ a, actOk a ∧ aText a = t ∧ actD a = .tuple [dS nm] := by
  unfold bareN at h
  cases q : bareK.find? (fun p => p.1 == t) with
  | none =>
    rw [q] at h
    cases h
  | some p =>
    rw [q] at h
    cases h
    have hp := List.mem_of_find?_eq_some q
    have he : (p.1 == t) = true := List.find?_some (p := fun p : Tx × Tx => p.1 == t) q
    rw [beq_iff_eq] at he
    simp only [bareK, List.mem_cons, List.not_mem_nil, or_false] at hp
    rcases hp with rfl | rfl | rfl | rfl | rfl
    · exact ⟨.great, trivial, he, rfl⟩
    · exact ⟨.all, trivial, he, rfl⟩
    · exact ⟨.last, trivial, he, rfl⟩
    · exact ⟨.back, trivial, he, rfl⟩
    · exact ⟨.again, trivial, he, rfl⟩
theorem occ_stop : ∀ c, c < 128 → (!(Builtin.Str.occurrences (S [46, 63, 33, 44, 58, 59]) (S [c]) 0 (S [46, 63, 33, 44, 58, 59]).length 1).isEmpty) = decide (c ∈ [46, 63, 33, 44, 58, 59]) := by decide +kernel
/-- what stands between the signs ^ -/
def midT (u : Tx) (l r : Bool) : Tx := (u.take (u.length - (if r = true then 1 else 0))).drop (if l = true then 1 else 0)
theorem mid_parts {u : Tx} {x z : Nat} (hx : atI u 0 = some x) (hz : atI u (-1) = some z) (h : u ≠ [94]) : (if decide (x = 94) = true then [94] else []) ++ midT u (decide (x = 94)) (decide (z = 94)) ++ (if decide (z = 94) = true then [94] else []) = u := by
  cases u with
  | nil => cases hx
  | cons c v =>
    have ex : c = x := Option.some.inj ((at0 c v).symm.trans hx)
    subst ex
    have hz2 : (c :: v).getLast? = some z := by
      have e := atI_neg (c :: v) 1 (by decide) (by simp)
      rw [show (-1 : Int) = -((1 : Nat) : Int) from rfl, e] at hz
      rw [List.getLast?_eq_getElem?]
      exact hz
    rcases List.eq_nil_or_concat v with rfl | ⟨m, y, rfl⟩
    · have e : c = z := by simpa using hz2
      subst e
      have hc : c ≠ 94 := fun e => h (by rw [e])
      simp [midT, hc]
    · have e : y = z := by simpa [List.getLast?_cons] using hz2
      subst e
      unfold midT
      by_cases h1 : c = 94 <;> by_cases h2 : y = 94 <;> simp [h1, h2, List.take_append, List.take_of_length_le (Nat.le_succ m.length)]
def sp_ractionX (K : PySem.W.Frag) : Sp := fun vs H Q E => ∃ t : Tx, vs = [.str (S t)] ∧ asc t ∧ t.length ≤ 1000 ∧ (∀ a v H', actOk a → aText a = t → Same H H' → Dp K H' v (actD a) → Q v H') ∧ E (CBad K) none H
abbrev s_read_action : Stmt := (top 12)
theorem sc_read_action : FnScope ["text", "inner", "left", "right", "word"] ["text"] (defScope s_read_action) := ⟨rfl, rfl, rfl, by decide +kernel, rfl, by decide +kernel, by decide +kernel⟩

section
variable {P : Program} {w : World} {K : PySem.W.Frag} {mg : Str → Option Value} {base : Heap}
theorem ok_ractionX {f : Addr} {fd : FuncData} (F : FunS K "read_action" s_read_action f fd) (b_int : mg "int" = none) (b_len : mg "len" = none) {es_B : Array DictEntry} {n_B : Nat} (g_BARE : ∃ u, mg "BARE" = some u ∧ RelV (.ref (He.ga K "BARE")) u) (B_BARE : BareF K w es_B n_B) (g_STOPS : ∃ u, mg "STOPS" = some u ∧ RelV (.str (S [46, 63, 33, 44, 58, 59])) u) (ex : ExF K mg) (c_need_word : CalX P w K mg base 1 "need_word" (sp_nwordX K)) : FnOk P w K mg base (L2.CX P w) 2 f fd ["text"] (sp_ractionX K) := by
  refine F.ok sc_read_action (fun vs H Q E h => ?_) (fun cdv A outer s H vs Q E hr h => ?_)
  · obtain ⟨v, rfl, _⟩ := h
    rfl
  obtain ⟨t, rfl, ta, tl, k, ke⟩ := h
  refine ⟨_, (pss_cons (ps_if (pt_cmpR (op_in_kd B_BARE.d) (pv 0) (pe_gc (by rfl) g_BARE) (by rfl))
    (pss_one (ps_ret (pe_ix ix_kdict (pe_gc (by rfl) g_BARE) (pv 0) (fun _ _ => rfl))))
    pss_nil)
  (pss_cons (ps_if (pt_cmpR op_ne (pe_slice sl_str (pv 0) po_none (po_some pe_int)) pe_str (nomark _))
    (pss_cons (ps_expr (pe_cx c_need_word hr (by first | decide | omega) (by rfl) (passes_call (takes_of rfl rfl rfl rfl) fun _ _ _ _ h => h) (pa_cons (pv 0) pa_nil)))
  (pss_one (ps_ret (pe_tup (pa_cons pe_str (pa_cons (pv 0) pa_nil))))))
    pss_nil)
  (pss_cons (ps_if (PW.pt (pw_or (pt_cmpR op_ne (pe_slice sl_str (pv 0) (po_some (pe_un un_neg pe_int)) po_none) pe_str (nomark _)) (pw_or1 (pt_cmpR op_lt (pe_callB call_len_str (by rfl) b_len PySem.boot_len (pa_cons (pv 0) pa_nil)) pe_int (nomark _)))))
    (pss_one (ps_raise rfl (takes_of rfl rfl rfl rfl) (pmk_own PySem.F.excBase_ValueError ex.x_BadEntry ex.g_BadEntry ex.k_BadEntry (raises_own ex.b_BadEntry ex.t_BadEntry) rfl)))
    pss_nil)
  (pss_cons (ps_set (i := 1) sc_read_action.nd rfl (.inl rfl) (pe_slice sl_str (pv 0) (po_some pe_int) (po_some (pe_un un_neg pe_int))))
  (pss_cons (ps_if (PW.pt (pw_and (pt_cmpR op_eq (pe_callB call_len_str (by rfl) b_len PySem.boot_len (pa_cons (pv 1) pa_nil)) pe_int (nomark _)) (pw_and1 (pt_cmpR op_in_str (pv 1) (pe_gc (by rfl) g_STOPS) (by rfl)))))
    (pss_one (ps_ret (pe_tup (pa_cons pe_str (pa_cons (pv 1) pa_nil)))))
    pss_nil)
  (pss_cons (ps_if (pt_cmpR op_eq (pv 1) pe_str (nomark _))
    (pss_one (ps_ret (pe_tup (pa_cons pe_str (pa_cons pe_str (pa_cons pe_bl (pa_cons pe_bl pa_nil)))))))
    pss_nil)
  (pss_cons (ps_if (pt_cmpR op_eq (pe_ix ix_str (pv 1) pe_int (fun _ _ => rfl)) pe_str (nomark _))
    (pss_cons (ps_expr (pe_cx c_need_word hr (by first | decide | omega) (by rfl) (passes_call (takes_of rfl rfl rfl rfl) fun _ _ _ _ h => h) (pa_cons (pe_slice sl_str (pv 1) (po_some pe_int) po_none) pa_nil)))
  (pss_one (ps_ret (pe_tup (pa_cons pe_str (pa_cons (pe_slice sl_str (pv 1) (po_some pe_int) po_none) pa_nil))))))
    pss_nil)
  (pss_cons (ps_set (i := 2) sc_read_action.nd rfl (.inl rfl) (pe_cmpR op_eq (pe_ix ix_str (pv 1) pe_int (fun _ _ => rfl)) pe_str (nomark _)))
  (pss_cons (ps_set (i := 3) sc_read_action.nd rfl (.inl rfl) (pe_cmpR op_eq (pe_ix ix_str (pv 1) (pe_un un_neg pe_int) (fun _ _ => rfl)) pe_str (nomark _)))
  (pss_cons (ps_set (i := 4) sc_read_action.nd rfl (.inl rfl) (pe_slice sl_str (pv 1) (po_some (pe_callTy call_int1 (by rfl) b_int (by decide +kernel) (pa_cons (pv 2) pa_nil))) (po_some (pe_op op_sub (pe_callB call_len_str (by rfl) b_len PySem.boot_len (pa_cons (pv 1) pa_nil)) (pe_callTy call_int1 (by rfl) b_int (by decide +kernel) (pa_cons (pv 3) pa_nil))))))
  (pss_cons (ps_if (PW.pt (pw_and (pt_not (pt_val (pv 2))) (pw_and1 (pt_not (pt_val (pv 3))))))
    (pss_one (ps_raise rfl (takes_of rfl rfl rfl rfl) (pmk_own PySem.F.excBase_ValueError ex.x_BadEntry ex.g_BadEntry ex.k_BadEntry (raises_own ex.b_BadEntry ex.t_BadEntry) rfl)))
    pss_nil)
  (pss_cons (ps_expr (pe_cx c_need_word hr (by first | decide | omega) (by rfl) (passes_call (takes_of rfl rfl rfl rfl) fun _ _ _ _ h => h) (pa_cons (pv 4) pa_nil)))
  (pss_one (ps_ret (pe_tup (pa_cons pe_str (pa_cons (pv 4) (pa_cons (pv 2) (pa_cons (pv 3) pa_nil))))))))))))))))))), ?_⟩
  simp only [tSeq, tAsg, tAnd, tOr, tNot, tTest, tB, tOp, tUn, tCB, tCons, tNil, tVar, tC, gName, rI0, rI, rU, rEq, rNe, rIxS, rIxL, rIxT, tRet, tRetN, tTup, tLst, tSl, tPart, tNoPart, rSlS, tIf, tNext, tDrop, tCall, tBM, tBM0, tAndV, tOrV, tNotV, tM0, tM1, gSub, rSetL, sFld, gCons_eq, gNil_eq, tCallS_eq, tDGet, sDPut, tMeth, tMake, tFld, tChain, tIsN, tNotN,
  List.set_cons_zero, List.set_cons_succ, exists_eq_left', exists_eq_left, exists_eq, V.int.injEq, V.str.injEq, V.bl.injEq, V.ref.injEq, List.cons.injEq, and_true, true_and, List.getElem?_cons_zero, List.getElem?_cons_succ, Option.some.injEq, List.append_nil, exists_and_left, cxOf_K, false_and, and_false, exists_false, false_or, or_false, exists_eq', exists_const, sg_eq, S_eq, S_toList, S_ne, tFor_eq, tLc_eq, iList_eq, iTup_eq, iRng1_eq, iStr_eq, decide_eq_true_eq, Bool.not_eq_true', decide_eq_false_iff_not, if_true, if_false, Bool.false_eq_true, reduceCtorEq, Bool.true_eq_false, decide_true, decide_false, lit_123, lit_94, lit_38, lit_106_111_105_110, lit_119_111_114_100, lit_125, lit_110_111_32_101_110_100, lit_115_116_111_112, lit_, lit_103_108_117_101, lit_110_111_116_104_105_110_103_32_105_115_32_106_111_105_110_101_100, start1_5]
  have stl : (S t).length = t.length := S_len t
  obtain ⟨rr0, hn1, hn2, hn3⟩ := B_BARE.ns t
  refine if_pure (bareN t).isSome (fun R rr => ?_) (fun e => ?_) (fun _ => ?_)
  · simp only [tSeq, tAsg, tAnd, tOr, tNot, tTest, tB, tOp, tUn, tCB, tCons, tNil, tVar, tC, gName, rI0, rI, rU, rEq, rNe, rIxS, rIxL, rIxT, tRet, tRetN, tTup, tLst, tSl, tPart, tNoPart, rSlS, tIf, tIfS, tNext, tDrop, tCall, tBM, tBM0, tAndV, tOrV, tNotV, tM0, tM1, gSub, rSetL, sFld, gCons_eq, gNil_eq, tCallS_eq, tDGet, sDPut, tMeth, tMake, tFld, tChain, tIsN, tNotN,
  List.set_cons_zero, List.set_cons_succ, exists_eq_left', exists_eq_left, exists_eq, V.int.injEq, V.str.injEq, V.bl.injEq, V.ref.injEq, List.cons.injEq, and_true, true_and, List.getElem?_cons_zero, List.getElem?_cons_succ, Option.some.injEq, List.append_nil, exists_and_left, cxOf_K, false_and, and_false, exists_false, false_or, or_false, exists_eq', exists_const, sg_eq, S_eq, S_toList, S_ne, tFor_eq, tLc_eq, iList_eq, iTup_eq, iRng1_eq, iStr_eq, decide_eq_true_eq, Bool.not_eq_true', decide_eq_false_iff_not, if_true, if_false, Bool.false_eq_true, reduceCtorEq, Bool.true_eq_false, decide_true, decide_false]
    exact ⟨_, hn1, by rw [hn2]; exact rr⟩
  · simp only [tSeq, tAsg, tAnd, tOr, tNot, tTest, tB, tOp, tUn, tCB, tCons, tNil, tVar, tC, gName, rI0, rI, rU, rEq, rNe, rIxS, rIxL, rIxT, tRet, tRetN, tTup, tLst, tSl, tPart, tNoPart, rSlS, tIf, tNext, tDrop, tCall, tBM, tBM0, tAndV, tOrV, tNotV, tM0, tM1, gSub, rSetL, sFld, gCons_eq, gNil_eq, tCallS_eq, tDGet, sDPut, tMeth, tMake, tFld, tChain, tIsN, tNotN,
  List.set_cons_zero, List.set_cons_succ, exists_eq_left', exists_eq_left, exists_eq, V.int.injEq, V.str.injEq, V.bl.injEq, V.ref.injEq, List.cons.injEq, and_true, true_and, List.getElem?_cons_zero, List.getElem?_cons_succ, Option.some.injEq, List.append_nil, exists_and_left, cxOf_K, false_and, and_false, exists_false, false_or, or_false, exists_eq', exists_const, sg_eq, S_eq, S_toList, S_ne, tFor_eq, tLc_eq, iList_eq, iTup_eq, iRng1_eq, iStr_eq, decide_eq_true_eq, Bool.not_eq_true', decide_eq_false_iff_not, if_true, if_false, Bool.false_eq_true, reduceCtorEq, Bool.true_eq_false, decide_true, decide_false, rIxD]
    obtain ⟨nm, hnm⟩ := Option.isSome_iff_exists.mp e
    obtain ⟨b, hb, hs⟩ := hn3 nm hnm
    rw [hb] at hn1
    obtain ⟨a, h1, h2, h3⟩ := bare_act hnm
    refine ⟨.ref b, ⟨es_B, n_B, _, B_BARE.d.at_, B_BARE.d.lit, hn1, rfl⟩, k a _ _ h1 h2 (Same.refl _) ?_⟩
    rw [h3]
    exact .tup (hs _) (dp_strs [S nm])
  simp only [tSeq, tAsg, tAnd, tOr, tNot, tTest, tB, tOp, tUn, tCB, tCons, tNil, tVar, tC, gName, rI0, rI, rU, rEq, rNe, rIxS, rIxL, rIxT, tRet, tRetN, tTup, tLst, tSl, tPart, tNoPart, rSlS, tIf, tNext, tDrop, tCall, tBM, tBM0, tAndV, tOrV, tNotV, tM0, tM1, gSub, rSetL, sFld, gCons_eq, gNil_eq, tCallS_eq, tDGet, sDPut, tMeth, tMake, tFld, tChain, tIsN, tNotN,
  List.set_cons_zero, List.set_cons_succ, exists_eq_left', exists_eq_left, exists_eq, V.int.injEq, V.str.injEq, V.bl.injEq, V.ref.injEq, List.cons.injEq, and_true, true_and, List.getElem?_cons_zero, List.getElem?_cons_succ, Option.some.injEq, List.append_nil, exists_and_left, cxOf_K, false_and, and_false, exists_false, false_or, or_false, exists_eq', exists_const, sg_eq, S_eq, S_toList, S_ne, tFor_eq, tLc_eq, iList_eq, iTup_eq, iRng1_eq, iStr_eq, decide_eq_true_eq, Bool.not_eq_true', decide_eq_false_iff_not, if_true, if_false, Bool.false_eq_true, reduceCtorEq, Bool.true_eq_false, decide_true, decide_false]
  have c1 : cutS (S t) none (some 1) = S (t.take 1) := by
    rw [cutS_S]
    exact congrArg S (cutL_to _ 1)
  refine if_pure (!decide (t.take 1 = [123])) (fun R rr => ?_) (fun _ => ?_) (fun e => ?_)
  · simp only [tSeq, tAsg, tAnd, tOr, tNot, tTest, tB, tOp, tUn, tCB, tCons, tNil, tVar, tC, gName, rI0, rI, rU, rEq, rNe, rIxS, rIxL, rIxT, tRet, tRetN, tTup, tLst, tSl, tPart, tNoPart, rSlS, tIf, tIfS, tNext, tDrop, tCall, tBM, tBM0, tAndV, tOrV, tNotV, tM0, tM1, gSub, rSetL, sFld, gCons_eq, gNil_eq, tCallS_eq, tDGet, sDPut, tMeth, tMake, tFld, tChain, tIsN, tNotN,
  List.set_cons_zero, List.set_cons_succ, exists_eq_left', exists_eq_left, exists_eq, V.int.injEq, V.str.injEq, V.bl.injEq, V.ref.injEq, List.cons.injEq, and_true, true_and, List.getElem?_cons_zero, List.getElem?_cons_succ, Option.some.injEq, List.append_nil, exists_and_left, cxOf_K, false_and, and_false, exists_false, false_or, or_false, exists_eq', exists_const, sg_eq, S_eq, S_toList, S_ne, tFor_eq, tLc_eq, iList_eq, iTup_eq, iRng1_eq, iStr_eq, decide_eq_true_eq, Bool.not_eq_true', decide_eq_false_iff_not, if_true, if_false, Bool.false_eq_true, reduceCtorEq, Bool.true_eq_false, decide_true, decide_false, c1]
    exact ⟨size_le (by omega), rfl, rr⟩
  · simp only [tSeq, tAsg, tAnd, tOr, tNot, tTest, tB, tOp, tUn, tCB, tCons, tNil, tVar, tC, gName, rI0, rI, rU, rEq, rNe, rIxS, rIxL, rIxT, tRet, tRetN, tTup, tLst, tSl, tPart, tNoPart, rSlS, tIf, tNext, tDrop, tCall, tBM, tBM0, tAndV, tOrV, tNotV, tM0, tM1, gSub, rSetL, sFld, gCons_eq, gNil_eq, tCallS_eq, tDGet, sDPut, tMeth, tMake, tFld, tChain, tIsN, tNotN,
  List.set_cons_zero, List.set_cons_succ, exists_eq_left', exists_eq_left, exists_eq, V.int.injEq, V.str.injEq, V.bl.injEq, V.ref.injEq, List.cons.injEq, and_true, true_and, List.getElem?_cons_zero, List.getElem?_cons_succ, Option.some.injEq, List.append_nil, exists_and_left, cxOf_K, false_and, and_false, exists_false, false_or, or_false, exists_eq', exists_const, sg_eq, S_eq, S_toList, S_ne, tFor_eq, tLc_eq, iList_eq, iTup_eq, iRng1_eq, iStr_eq, decide_eq_true_eq, Bool.not_eq_true', decide_eq_false_iff_not, if_true, if_false, Bool.false_eq_true, reduceCtorEq, Bool.true_eq_false, decide_true, decide_false]
    exact ⟨t, rfl, ta, tl, fun ht => ⟨(size_le (by simp only [List.length_cons, List.length_nil]; decide)), fun p hp => k (.word t) _ _ ht rfl (same_new hp) (.tup (st_of upd_same) (dp_strs [S wWord, S t]))⟩, ke⟩
  have e1 : t.take 1 = [123] := by simpa using e
  obtain ⟨t1, rfl⟩ : ∃ t1, t = 123 :: t1 := by
    cases t with
    | nil => cases e1
    | cons c r => exact ⟨r, by rw [List.take_succ_cons, List.take_zero] at e1; rw [List.singleton_inj.mp e1]⟩
  clear e e1 c1
  simp only [tSeq, tAsg, tAnd, tOr, tNot, tTest, tB, tOp, tUn, tCB, tCons, tNil, tVar, tC, gName, rI0, rI, rU, rEq, rNe, rIxS, rIxL, rIxT, tRet, tRetN, tTup, tLst, tSl, tPart, tNoPart, rSlS, tIf, tNext, tDrop, tCall, tBM, tBM0, tAndV, tOrV, tNotV, tM0, tM1, gSub, rSetL, sFld, gCons_eq, gNil_eq, tCallS_eq, tDGet, sDPut, tMeth, tMake, tFld, tChain, tIsN, tNotN,
  List.set_cons_zero, List.set_cons_succ, exists_eq_left', exists_eq_left, exists_eq, V.int.injEq, V.str.injEq, V.bl.injEq, V.ref.injEq, List.cons.injEq, and_true, true_and, List.getElem?_cons_zero, List.getElem?_cons_succ, Option.some.injEq, List.append_nil, exists_and_left, cxOf_K, false_and, and_false, exists_false, false_or, or_false, exists_eq', exists_const, sg_eq, S_eq, S_toList, S_ne, tFor_eq, tLc_eq, iList_eq, iTup_eq, iRng1_eq, iStr_eq, decide_eq_true_eq, Bool.not_eq_true', decide_eq_false_iff_not, if_true, if_false, Bool.false_eq_true, reduceCtorEq, Bool.true_eq_false, decide_true, decide_false]
  have c2 : cutS (S (123 :: t1)) (some (-1)) none = S ((123 :: t1).drop ((123 :: t1).length - 1)) := by
    rw [cutS_S, cutL_last]
  by_cases hend : ∃ u, t1 = u ++ [125] ∧ 1 ≤ u.length
  case neg =>
    refine if_pure true (fun R rr => ?_) (fun _ => ke) (fun z => nomatch z)
    simp only [tSeq, tAsg, tAnd, tOr, tNot, tTest, tB, tOp, tUn, tCB, tCons, tNil, tVar, tC, gName, rI0, rI, rU, rEq, rNe, rIxS, rIxL, rIxT, tRet, tRetN, tTup, tLst, tSl, tPart, tNoPart, rSlS, tIf, tIfS, tNext, tDrop, tCall, tBM, tBM0, tAndV, tOrV, tNotV, tM0, tM1, gSub, rSetL, sFld, gCons_eq, gNil_eq, tCallS_eq, tDGet, sDPut, tMeth, tMake, tFld, tChain, tIsN, tNotN,
  List.set_cons_zero, List.set_cons_succ, exists_eq_left', exists_eq_left, exists_eq, V.int.injEq, V.str.injEq, V.bl.injEq, V.ref.injEq, List.cons.injEq, and_true, true_and, List.getElem?_cons_zero, List.getElem?_cons_succ, Option.some.injEq, List.append_nil, exists_and_left, cxOf_K, false_and, and_false, exists_false, false_or, or_false, exists_eq', exists_const, sg_eq, S_eq, S_toList, S_ne, tFor_eq, tLc_eq, iList_eq, iTup_eq, iRng1_eq, iStr_eq, decide_eq_true_eq, Bool.not_eq_true', decide_eq_false_iff_not, if_true, if_false, Bool.false_eq_true, reduceCtorEq, Bool.true_eq_false, decide_true, decide_false, c2]
    refine ⟨size_le (by omega), rfl, ?_⟩
    by_cases h1 : (123 :: t1).drop ((123 :: t1).length - 1) = [125]
    · rw [if_neg (fun z => z h1)]
      refine ⟨size_le (by omega), ?_⟩
      rw [stl, decide_eq_true]
      · exact rr
      · rcases List.eq_nil_or_concat t1 with rfl | ⟨u, y, rfl⟩
        · decide
        · have hy : y = 125 := by simpa using h1
          subst hy
          have : ¬ 1 ≤ u.length := fun z => hend ⟨u, by simp, z⟩
          simp
          omega
    · rw [if_pos h1]
      exact rr
  obtain ⟨u, rfl, hu1⟩ := hend
  have ct : (123 :: (u ++ [125])).length = u.length + 2 := by simp
  rw [ct] at tl stl
  have hsp : (123 :: (u ++ [125]) : Tx) = [123] ++ u ++ [125] := by simp
  have ua : asc u := fun c hc => ta c (by simp [hc])
  refine if_pure false (fun R rr => ?_) (fun z => nomatch z) (fun _ => ?_)
  · simp only [tSeq, tAsg, tAnd, tOr, tNot, tTest, tB, tOp, tUn, tCB, tCons, tNil, tVar, tC, gName, rI0, rI, rU, rEq, rNe, rIxS, rIxL, rIxT, tRet, tRetN, tTup, tLst, tSl, tPart, tNoPart, rSlS, tIf, tIfS, tNext, tDrop, tCall, tBM, tBM0, tAndV, tOrV, tNotV, tM0, tM1, gSub, rSetL, sFld, gCons_eq, gNil_eq, tCallS_eq, tDGet, sDPut, tMeth, tMake, tFld, tChain, tIsN, tNotN,
  List.set_cons_zero, List.set_cons_succ, exists_eq_left', exists_eq_left, exists_eq, V.int.injEq, V.str.injEq, V.bl.injEq, V.ref.injEq, List.cons.injEq, and_true, true_and, List.getElem?_cons_zero, List.getElem?_cons_succ, Option.some.injEq, List.append_nil, exists_and_left, cxOf_K, false_and, and_false, exists_false, false_or, or_false, exists_eq', exists_const, sg_eq, S_eq, S_toList, S_ne, tFor_eq, tLc_eq, iList_eq, iTup_eq, iRng1_eq, iStr_eq, decide_eq_true_eq, Bool.not_eq_true', decide_eq_false_iff_not, if_true, if_false, Bool.false_eq_true, reduceCtorEq, Bool.true_eq_false, decide_true, decide_false, c2]
    refine ⟨size_le (by omega), rfl, ?_⟩
    rw [if_neg (fun z => z (by simp))]
    refine ⟨size_le (by omega), ?_⟩
    rw [stl, decide_eq_false (by omega)]
    exact rr
  have c3 : cutS (S (123 :: (u ++ [125]))) (some 1) (some (-1)) = S u := by
    rw [cutS_S, cutL_in]
    simp
  simp only [tSeq, tAsg, tAnd, tOr, tNot, tTest, tB, tOp, tUn, tCB, tCons, tNil, tVar, tC, gName, rI0, rI, rU, rEq, rNe, rIxS, rIxL, rIxT, tRet, tRetN, tTup, tLst, tSl, tPart, tNoPart, rSlS, tIf, tNext, tDrop, tCall, tBM, tBM0, tAndV, tOrV, tNotV, tM0, tM1, gSub, rSetL, sFld, gCons_eq, gNil_eq, tCallS_eq, tDGet, sDPut, tMeth, tMake, tFld, tChain, tIsN, tNotN,
  List.set_cons_zero, List.set_cons_succ, exists_eq_left', exists_eq_left, exists_eq, V.int.injEq, V.str.injEq, V.bl.injEq, V.ref.injEq, List.cons.injEq, and_true, true_and, List.getElem?_cons_zero, List.getElem?_cons_succ, Option.some.injEq, List.append_nil, exists_and_left, cxOf_K, false_and, and_false, exists_false, false_or, or_false, exists_eq', exists_const, sg_eq, S_eq, S_toList, S_ne, tFor_eq, tLc_eq, iList_eq, iTup_eq, iRng1_eq, iStr_eq, decide_eq_true_eq, Bool.not_eq_true', decide_eq_false_iff_not, if_true, if_false, Bool.false_eq_true, reduceCtorEq, Bool.true_eq_false, decide_true, decide_false, c3]
  refine ⟨size_le (by omega), ?_⟩
  clear c2 c3
  have ul : (S u).length = u.length := S_len u
  -- a stop
  by_cases hstop : ∃ c, u = [c] ∧ c ∈ [46, 63, 33, 44, 58, 59]
  · obtain ⟨c, rfl, hc⟩ := hstop
    refine if_pure true (fun R rr => ?_) (fun _ => ?_) (fun z => nomatch z)
    · simp only [tSeq, tAsg, tAnd, tOr, tNot, tTest, tB, tOp, tUn, tCB, tCons, tNil, tVar, tC, gName, rI0, rI, rU, rEq, rNe, rIxS, rIxL, rIxT, tRet, tRetN, tTup, tLst, tSl, tPart, tNoPart, rSlS, tIf, tIfS, tNext, tDrop, tCall, tBM, tBM0, tAndV, tOrV, tNotV, tM0, tM1, gSub, rSetL, sFld, gCons_eq, gNil_eq, tCallS_eq, tDGet, sDPut, tMeth, tMake, tFld, tChain, tIsN, tNotN,
  List.set_cons_zero, List.set_cons_succ, exists_eq_left', exists_eq_left, exists_eq, V.int.injEq, V.str.injEq, V.bl.injEq, V.ref.injEq, List.cons.injEq, and_true, true_and, List.getElem?_cons_zero, List.getElem?_cons_succ, Option.some.injEq, List.append_nil, exists_and_left, cxOf_K, false_and, and_false, exists_false, false_or, or_false, exists_eq', exists_const, sg_eq, S_eq, S_toList, S_ne, tFor_eq, tLc_eq, iList_eq, iTup_eq, iRng1_eq, iStr_eq, decide_eq_true_eq, Bool.not_eq_true', decide_eq_false_iff_not, if_true, if_false, Bool.false_eq_true, reduceCtorEq, Bool.true_eq_false, decide_true, decide_false]
      refine ⟨(size_le (by (try simp only [S_len, List.length_append, List.length_cons, List.length_nil]); omega)), rfl, ?_⟩
      rw [if_pos (by rw [S_len]; rfl), occ_stop c (ua c List.mem_cons_self), decide_eq_true hc]
      exact rr
    simp only [tSeq, tAsg, tAnd, tOr, tNot, tTest, tB, tOp, tUn, tCB, tCons, tNil, tVar, tC, gName, rI0, rI, rU, rEq, rNe, rIxS, rIxL, rIxT, tRet, tRetN, tTup, tLst, tSl, tPart, tNoPart, rSlS, tIf, tNext, tDrop, tCall, tBM, tBM0, tAndV, tOrV, tNotV, tM0, tM1, gSub, rSetL, sFld, gCons_eq, gNil_eq, tCallS_eq, tDGet, sDPut, tMeth, tMake, tFld, tChain, tIsN, tNotN,
  List.set_cons_zero, List.set_cons_succ, exists_eq_left', exists_eq_left, exists_eq, V.int.injEq, V.str.injEq, V.bl.injEq, V.ref.injEq, List.cons.injEq, and_true, true_and, List.getElem?_cons_zero, List.getElem?_cons_succ, Option.some.injEq, List.append_nil, exists_and_left, cxOf_K, false_and, and_false, exists_false, false_or, or_false, exists_eq', exists_const, sg_eq, S_eq, S_toList, S_ne, tFor_eq, tLc_eq, iList_eq, iTup_eq, iRng1_eq, iStr_eq, decide_eq_true_eq, Bool.not_eq_true', decide_eq_false_iff_not, if_true, if_false, Bool.false_eq_true, reduceCtorEq, Bool.true_eq_false, decide_true, decide_false]
    exact ⟨(size_le (by simp only [List.length_cons, List.length_nil]; decide)), fun p hp => k (.stop c) _ _ hc rfl (same_new hp) (.tup (st_of upd_same) (dp_strs [S wStop, S [c]]))⟩
  refine if_pure false (fun R rr => ?_) (fun z => nomatch z) (fun _ => ?_)
  · simp only [tSeq, tAsg, tAnd, tOr, tNot, tTest, tB, tOp, tUn, tCB, tCons, tNil, tVar, tC, gName, rI0, rI, rU, rEq, rNe, rIxS, rIxL, rIxT, tRet, tRetN, tTup, tLst, tSl, tPart, tNoPart, rSlS, tIf, tIfS, tNext, tDrop, tCall, tBM, tBM0, tAndV, tOrV, tNotV, tM0, tM1, gSub, rSetL, sFld, gCons_eq, gNil_eq, tCallS_eq, tDGet, sDPut, tMeth, tMake, tFld, tChain, tIsN, tNotN,
  List.set_cons_zero, List.set_cons_succ, exists_eq_left', exists_eq_left, exists_eq, V.int.injEq, V.str.injEq, V.bl.injEq, V.ref.injEq, List.cons.injEq, and_true, true_and, List.getElem?_cons_zero, List.getElem?_cons_succ, Option.some.injEq, List.append_nil, exists_and_left, cxOf_K, false_and, and_false, exists_false, false_or, or_false, exists_eq', exists_const, sg_eq, S_eq, S_toList, S_ne, tFor_eq, tLc_eq, iList_eq, iTup_eq, iRng1_eq, iStr_eq, decide_eq_true_eq, Bool.not_eq_true', decide_eq_false_iff_not, if_true, if_false, Bool.false_eq_true, reduceCtorEq, Bool.true_eq_false, decide_true, decide_false]
    refine ⟨size_le (by omega), rfl, ?_⟩
    by_cases h1 : (u.length : Int) = 1
    · rw [ul, if_pos h1]
      obtain ⟨c, rfl⟩ := List.length_eq_one_iff.mp (by omega : u.length = 1)
      rw [occ_stop c (ua c List.mem_cons_self), decide_eq_false (fun z => hstop ⟨c, rfl, z⟩)]
      exact rr
    · rw [ul, if_neg h1]
      exact rr
  simp only [tSeq, tAsg, tAnd, tOr, tNot, tTest, tB, tOp, tUn, tCB, tCons, tNil, tVar, tC, gName, rI0, rI, rU, rEq, rNe, rIxS, rIxL, rIxT, tRet, tRetN, tTup, tLst, tSl, tPart, tNoPart, rSlS, tIf, tNext, tDrop, tCall, tBM, tBM0, tAndV, tOrV, tNotV, tM0, tM1, gSub, rSetL, sFld, gCons_eq, gNil_eq, tCallS_eq, tDGet, sDPut, tMeth, tMake, tFld, tChain, tIsN, tNotN,
  List.set_cons_zero, List.set_cons_succ, exists_eq_left', exists_eq_left, exists_eq, V.int.injEq, V.str.injEq, V.bl.injEq, V.ref.injEq, List.cons.injEq, and_true, true_and, List.getElem?_cons_zero, List.getElem?_cons_succ, Option.some.injEq, List.append_nil, exists_and_left, cxOf_K, false_and, and_false, exists_false, false_or, or_false, exists_eq', exists_const, sg_eq, S_eq, S_toList, S_ne, tFor_eq, tLc_eq, iList_eq, iTup_eq, iRng1_eq, iStr_eq, decide_eq_true_eq, Bool.not_eq_true', decide_eq_false_iff_not, if_true, if_false, Bool.false_eq_true, reduceCtorEq, Bool.true_eq_false, decide_true, decide_false]
  -- {^}
  by_cases hcar : u = [94]
  · subst hcar
    refine if_pure true (fun R rr => ?_) (fun _ => ?_) (fun z => nomatch z)
    · simp only [tSeq, tAsg, tAnd, tOr, tNot, tTest, tB, tOp, tUn, tCB, tCons, tNil, tVar, tC, gName, rI0, rI, rU, rEq, rNe, rIxS, rIxL, rIxT, tRet, tRetN, tTup, tLst, tSl, tPart, tNoPart, rSlS, tIf, tIfS, tNext, tDrop, tCall, tBM, tBM0, tAndV, tOrV, tNotV, tM0, tM1, gSub, rSetL, sFld, gCons_eq, gNil_eq, tCallS_eq, tDGet, sDPut, tMeth, tMake, tFld, tChain, tIsN, tNotN,
  List.set_cons_zero, List.set_cons_succ, exists_eq_left', exists_eq_left, exists_eq, V.int.injEq, V.str.injEq, V.bl.injEq, V.ref.injEq, List.cons.injEq, and_true, true_and, List.getElem?_cons_zero, List.getElem?_cons_succ, Option.some.injEq, List.append_nil, exists_and_left, cxOf_K, false_and, and_false, exists_false, false_or, or_false, exists_eq', exists_const, sg_eq, S_eq, S_toList, S_ne, tFor_eq, tLc_eq, iList_eq, iTup_eq, iRng1_eq, iStr_eq, decide_eq_true_eq, Bool.not_eq_true', decide_eq_false_iff_not, if_true, if_false, Bool.false_eq_true, reduceCtorEq, Bool.true_eq_false, decide_true, decide_false]
      exact ⟨rfl, rr⟩
    simp only [tSeq, tAsg, tAnd, tOr, tNot, tTest, tB, tOp, tUn, tCB, tCons, tNil, tVar, tC, gName, rI0, rI, rU, rEq, rNe, rIxS, rIxL, rIxT, tRet, tRetN, tTup, tLst, tSl, tPart, tNoPart, rSlS, tIf, tNext, tDrop, tCall, tBM, tBM0, tAndV, tOrV, tNotV, tM0, tM1, gSub, rSetL, sFld, gCons_eq, gNil_eq, tCallS_eq, tDGet, sDPut, tMeth, tMake, tFld, tChain, tIsN, tNotN,
  List.set_cons_zero, List.set_cons_succ, exists_eq_left', exists_eq_left, exists_eq, V.int.injEq, V.str.injEq, V.bl.injEq, V.ref.injEq, List.cons.injEq, and_true, true_and, List.getElem?_cons_zero, List.getElem?_cons_succ, Option.some.injEq, List.append_nil, exists_and_left, cxOf_K, false_and, and_false, exists_false, false_or, or_false, exists_eq', exists_const, sg_eq, S_eq, S_toList, S_ne, tFor_eq, tLc_eq, iList_eq, iTup_eq, iRng1_eq, iStr_eq, decide_eq_true_eq, Bool.not_eq_true', decide_eq_false_iff_not, if_true, if_false, Bool.false_eq_true, reduceCtorEq, Bool.true_eq_false, decide_true, decide_false]
    exact ⟨(size_le (by simp only [List.length_cons, List.length_nil]; decide)), fun p hp => k (.join [] true true) _ _ (.inr ⟨rfl, rfl, rfl⟩) rfl (same_new hp) (.tup (st_of upd_same) (.cons (.str _) (.cons (.str _) (.cons (.bl true) (.cons (.bl true) .nil)))))⟩
  refine if_pure false (fun R rr => ?_) (fun z => nomatch z) (fun _ => ?_)
  · simp only [tSeq, tAsg, tAnd, tOr, tNot, tTest, tB, tOp, tUn, tCB, tCons, tNil, tVar, tC, gName, rI0, rI, rU, rEq, rNe, rIxS, rIxL, rIxT, tRet, tRetN, tTup, tLst, tSl, tPart, tNoPart, rSlS, tIf, tIfS, tNext, tDrop, tCall, tBM, tBM0, tAndV, tOrV, tNotV, tM0, tM1, gSub, rSetL, sFld, gCons_eq, gNil_eq, tCallS_eq, tDGet, sDPut, tMeth, tMake, tFld, tChain, tIsN, tNotN,
  List.set_cons_zero, List.set_cons_succ, exists_eq_left', exists_eq_left, exists_eq, V.int.injEq, V.str.injEq, V.bl.injEq, V.ref.injEq, List.cons.injEq, and_true, true_and, List.getElem?_cons_zero, List.getElem?_cons_succ, Option.some.injEq, List.append_nil, exists_and_left, cxOf_K, false_and, and_false, exists_false, false_or, or_false, exists_eq', exists_const, sg_eq, S_eq, S_toList, S_ne, tFor_eq, tLc_eq, iList_eq, iTup_eq, iRng1_eq, iStr_eq, decide_eq_true_eq, Bool.not_eq_true', decide_eq_false_iff_not, if_true, if_false, Bool.false_eq_true, reduceCtorEq, Bool.true_eq_false, decide_true, decide_false]
    refine ⟨rfl, ?_⟩
    rw [decide_eq_false hcar]
    exact rr
  simp only [tSeq, tAsg, tAnd, tOr, tNot, tTest, tB, tOp, tUn, tCB, tCons, tNil, tVar, tC, gName, rI0, rI, rU, rEq, rNe, rIxS, rIxL, rIxT, tRet, tRetN, tTup, tLst, tSl, tPart, tNoPart, rSlS, tIf, tNext, tDrop, tCall, tBM, tBM0, tAndV, tOrV, tNotV, tM0, tM1, gSub, rSetL, sFld, gCons_eq, gNil_eq, tCallS_eq, tDGet, sDPut, tMeth, tMake, tFld, tChain, tIsN, tNotN,
  List.set_cons_zero, List.set_cons_succ, exists_eq_left', exists_eq_left, exists_eq, V.int.injEq, V.str.injEq, V.bl.injEq, V.ref.injEq, List.cons.injEq, and_true, true_and, List.getElem?_cons_zero, List.getElem?_cons_succ, Option.some.injEq, List.append_nil, exists_and_left, cxOf_K, false_and, and_false, exists_false, false_or, or_false, exists_eq', exists_const, sg_eq, S_eq, S_toList, S_ne, tFor_eq, tLc_eq, iList_eq, iTup_eq, iRng1_eq, iStr_eq, decide_eq_true_eq, Bool.not_eq_true', decide_eq_false_iff_not, if_true, if_false, Bool.false_eq_true, reduceCtorEq, Bool.true_eq_false, decide_true, decide_false]
  obtain ⟨x, hx⟩ : ∃ x, atI u 0 = some x := by
    cases u with
    | nil => exact absurd hu1 (by decide)
    | cons c v => exact ⟨c, at0 c v⟩
  obtain ⟨z, hz⟩ : ∃ z, atI u (-1) = some z := by
    have e := atI_neg u 1 (by decide) hu1
    rw [show (-1 : Int) = -((1 : Nat) : Int) from rfl, e]
    exact ⟨_, List.getElem?_eq_getElem (by omega)⟩
  -- {&..}
  by_cases h38 : x = 38
  · subst h38
    obtain ⟨v, rfl⟩ : ∃ v, u = 38 :: v := by
      cases u with
      | nil => cases hx
      | cons c v => exact ⟨v, by rw [Option.some.inj ((at0 c v).symm.trans hx)]⟩
    rw [List.length_cons] at ul tl
    refine if_pure true (fun R rr => ?_) (fun _ => ?_) (fun z => nomatch z)
    · simp only [tSeq, tAsg, tAnd, tOr, tNot, tTest, tB, tOp, tUn, tCB, tCons, tNil, tVar, tC, gName, rI0, rI, rU, rEq, rNe, rIxS, rIxL, rIxT, tRet, tRetN, tTup, tLst, tSl, tPart, tNoPart, rSlS, tIf, tIfS, tNext, tDrop, tCall, tBM, tBM0, tAndV, tOrV, tNotV, tM0, tM1, gSub, rSetL, sFld, gCons_eq, gNil_eq, tCallS_eq, tDGet, sDPut, tMeth, tMake, tFld, tChain, tIsN, tNotN,
  List.set_cons_zero, List.set_cons_succ, exists_eq_left', exists_eq_left, exists_eq, V.int.injEq, V.str.injEq, V.bl.injEq, V.ref.injEq, List.cons.injEq, and_true, true_and, List.getElem?_cons_zero, List.getElem?_cons_succ, Option.some.injEq, List.append_nil, exists_and_left, cxOf_K, false_and, and_false, exists_false, false_or, or_false, exists_eq', exists_const, sg_eq, S_eq, S_toList, S_ne, tFor_eq, tLc_eq, iList_eq, iTup_eq, iRng1_eq, iStr_eq, decide_eq_true_eq, Bool.not_eq_true', decide_eq_false_iff_not, if_true, if_false, Bool.false_eq_true, reduceCtorEq, Bool.true_eq_false, decide_true, decide_false]
      exact ⟨size_le (by omega), _, at0 _ _, rfl, rr⟩
    have c4 : cutS (S (38 :: v)) (some 1) none = S v := by
      rw [cutS_S]
      exact congrArg S (cutL_from _ 1)
    simp only [tSeq, tAsg, tAnd, tOr, tNot, tTest, tB, tOp, tUn, tCB, tCons, tNil, tVar, tC, gName, rI0, rI, rU, rEq, rNe, rIxS, rIxL, rIxT, tRet, tRetN, tTup, tLst, tSl, tPart, tNoPart, rSlS, tIf, tNext, tDrop, tCall, tBM, tBM0, tAndV, tOrV, tNotV, tM0, tM1, gSub, rSetL, sFld, gCons_eq, gNil_eq, tCallS_eq, tDGet, sDPut, tMeth, tMake, tFld, tChain, tIsN, tNotN,
  List.set_cons_zero, List.set_cons_succ, exists_eq_left', exists_eq_left, exists_eq, V.int.injEq, V.str.injEq, V.bl.injEq, V.ref.injEq, List.cons.injEq, and_true, true_and, List.getElem?_cons_zero, List.getElem?_cons_succ, Option.some.injEq, List.append_nil, exists_and_left, cxOf_K, false_and, and_false, exists_false, false_or, or_false, exists_eq', exists_const, sg_eq, S_eq, S_toList, S_ne, tFor_eq, tLc_eq, iList_eq, iTup_eq, iRng1_eq, iStr_eq, decide_eq_true_eq, Bool.not_eq_true', decide_eq_false_iff_not, if_true, if_false, Bool.false_eq_true, reduceCtorEq, Bool.true_eq_false, decide_true, decide_false, c4]
    refine ⟨size_le (by omega), v, rfl, fun c hc => ua c (List.mem_cons_of_mem _ hc), by omega, fun ht => ⟨size_le (by omega), (size_le (by simp only [List.length_cons, List.length_nil]; decide)), fun p hp => k (.glue v) _ _ ht (by rw [hsp]; rfl) (same_new hp) (.tup (st_of upd_same) (dp_strs [S wGlue, S v]))⟩, ke⟩
  refine if_pure false (fun R rr => ?_) (fun z => nomatch z) (fun _ => ?_)
  · simp only [tSeq, tAsg, tAnd, tOr, tNot, tTest, tB, tOp, tUn, tCB, tCons, tNil, tVar, tC, gName, rI0, rI, rU, rEq, rNe, rIxS, rIxL, rIxT, tRet, tRetN, tTup, tLst, tSl, tPart, tNoPart, rSlS, tIf, tIfS, tNext, tDrop, tCall, tBM, tBM0, tAndV, tOrV, tNotV, tM0, tM1, gSub, rSetL, sFld, gCons_eq, gNil_eq, tCallS_eq, tDGet, sDPut, tMeth, tMake, tFld, tChain, tIsN, tNotN,
  List.set_cons_zero, List.set_cons_succ, exists_eq_left', exists_eq_left, exists_eq, V.int.injEq, V.str.injEq, V.bl.injEq, V.ref.injEq, List.cons.injEq, and_true, true_and, List.getElem?_cons_zero, List.getElem?_cons_succ, Option.some.injEq, List.append_nil, exists_and_left, cxOf_K, false_and, and_false, exists_false, false_or, or_false, exists_eq', exists_const, sg_eq, S_eq, S_toList, S_ne, tFor_eq, tLc_eq, iList_eq, iTup_eq, iRng1_eq, iStr_eq, decide_eq_true_eq, Bool.not_eq_true', decide_eq_false_iff_not, if_true, if_false, Bool.false_eq_true, reduceCtorEq, Bool.true_eq_false, decide_true, decide_false]
    refine ⟨size_le (by omega), _, hx, rfl, ?_⟩
    rw [decide_eq_false h38]
    exact rr
  simp only [tSeq, tAsg, tAnd, tOr, tNot, tTest, tB, tOp, tUn, tCB, tCons, tNil, tVar, tC, gName, rI0, rI, rU, rEq, rNe, rIxS, rIxL, rIxT, tRet, tRetN, tTup, tLst, tSl, tPart, tNoPart, rSlS, tIf, tNext, tDrop, tCall, tBM, tBM0, tAndV, tOrV, tNotV, tM0, tM1, gSub, rSetL, sFld, gCons_eq, gNil_eq, tCallS_eq, tDGet, sDPut, tMeth, tMake, tFld, tChain, tIsN, tNotN,
  List.set_cons_zero, List.set_cons_succ, exists_eq_left', exists_eq_left, exists_eq, V.int.injEq, V.str.injEq, V.bl.injEq, V.ref.injEq, List.cons.injEq, and_true, true_and, List.getElem?_cons_zero, List.getElem?_cons_succ, Option.some.injEq, List.append_nil, exists_and_left, cxOf_K, false_and, and_false, exists_false, false_or, or_false, exists_eq', exists_const, sg_eq, S_eq, S_toList, S_ne, tFor_eq, tLc_eq, iList_eq, iTup_eq, iRng1_eq, iStr_eq, decide_eq_true_eq, Bool.not_eq_true', decide_eq_false_iff_not, if_true, if_false, Bool.false_eq_true, reduceCtorEq, Bool.true_eq_false, decide_true, decide_false]
  refine ⟨size_le (by omega), _, hx, rfl, size_le (by omega), _, hz, rfl, size_le (by omega), size_le (by omega), ?_⟩
  have c5 : cutS (S u) (some (if x = 94 then 1 else 0)) (some ((u.length : Int) - (if z = 94 then 1 else 0))) = S (midT u (decide (x = 94)) (decide (z = 94))) := by
    have e1 : (if x = 94 then 1 else 0 : Int) = (((if decide (x = 94) = true then 1 else 0 : Nat) : Nat) : Int) := by
      by_cases h : x = 94 <;> simp [h]
    have e2 : (u.length : Int) - (if z = 94 then 1 else 0) = (((u.length - (if decide (z = 94) = true then 1 else 0) : Nat)) : Int) := by
      by_cases h : z = 94 <;> simp [h] <;> omega
    rw [cutS_S, e1, e2, cutL_mid]
    rfl
  rw [ul, c5]
  have hparts := mid_parts hx hz hcar
  have hml : (midT u (decide (x = 94)) (decide (z = 94))).length ≤ u.length := by
    unfold midT
    rw [List.length_drop, List.length_take]
    omega
  have hma : asc (midT u (decide (x = 94)) (decide (z = 94))) := asc_drop _ (asc_take _ ua)
  by_cases hno : x ≠ 94 ∧ z ≠ 94
  · refine if_pure true (fun R rr => ?_) (fun _ => ke) (fun z => nomatch z)
    simp only [tSeq, tAsg, tAnd, tOr, tNot, tTest, tB, tOp, tUn, tCB, tCons, tNil, tVar, tC, gName, rI0, rI, rU, rEq, rNe, rIxS, rIxL, rIxT, tRet, tRetN, tTup, tLst, tSl, tPart, tNoPart, rSlS, tIf, tIfS, tNext, tDrop, tCall, tBM, tBM0, tAndV, tOrV, tNotV, tM0, tM1, gSub, rSetL, sFld, gCons_eq, gNil_eq, tCallS_eq, tDGet, sDPut, tMeth, tMake, tFld, tChain, tIsN, tNotN,
  List.set_cons_zero, List.set_cons_succ, exists_eq_left', exists_eq_left, exists_eq, V.int.injEq, V.str.injEq, V.bl.injEq, V.ref.injEq, List.cons.injEq, and_true, true_and, List.getElem?_cons_zero, List.getElem?_cons_succ, Option.some.injEq, List.append_nil, exists_and_left, cxOf_K, false_and, and_false, exists_false, false_or, or_false, exists_eq', exists_const, sg_eq, S_eq, S_toList, S_ne, tFor_eq, tLc_eq, iList_eq, iTup_eq, iRng1_eq, iStr_eq, decide_eq_true_eq, Bool.not_eq_true', decide_eq_false_iff_not, if_true, if_false, Bool.false_eq_true, reduceCtorEq, Bool.true_eq_false, decide_true, decide_false]
    rw [if_pos hno.1, decide_eq_false hno.2]
    exact rr
  refine if_pure false (fun R rr => ?_) (fun z => nomatch z) (fun _ => ?_)
  · simp only [tSeq, tAsg, tAnd, tOr, tNot, tTest, tB, tOp, tUn, tCB, tCons, tNil, tVar, tC, gName, rI0, rI, rU, rEq, rNe, rIxS, rIxL, rIxT, tRet, tRetN, tTup, tLst, tSl, tPart, tNoPart, rSlS, tIf, tIfS, tNext, tDrop, tCall, tBM, tBM0, tAndV, tOrV, tNotV, tM0, tM1, gSub, rSetL, sFld, gCons_eq, gNil_eq, tCallS_eq, tDGet, sDPut, tMeth, tMake, tFld, tChain, tIsN, tNotN,
  List.set_cons_zero, List.set_cons_succ, exists_eq_left', exists_eq_left, exists_eq, V.int.injEq, V.str.injEq, V.bl.injEq, V.ref.injEq, List.cons.injEq, and_true, true_and, List.getElem?_cons_zero, List.getElem?_cons_succ, Option.some.injEq, List.append_nil, exists_and_left, cxOf_K, false_and, and_false, exists_false, false_or, or_false, exists_eq', exists_const, sg_eq, S_eq, S_toList, S_ne, tFor_eq, tLc_eq, iList_eq, iTup_eq, iRng1_eq, iStr_eq, decide_eq_true_eq, Bool.not_eq_true', decide_eq_false_iff_not, if_true, if_false, Bool.false_eq_true, reduceCtorEq, Bool.true_eq_false, decide_true, decide_false]
    by_cases h9 : x = 94
    · rw [if_neg (fun q => q h9)]
      exact rr
    · rw [if_pos h9, decide_eq_true (Decidable.byContradiction fun q => hno ⟨h9, q⟩)]
      exact rr
  simp only [tSeq, tAsg, tAnd, tOr, tNot, tTest, tB, tOp, tUn, tCB, tCons, tNil, tVar, tC, gName, rI0, rI, rU, rEq, rNe, rIxS, rIxL, rIxT, tRet, tRetN, tTup, tLst, tSl, tPart, tNoPart, rSlS, tIf, tNext, tDrop, tCall, tBM, tBM0, tAndV, tOrV, tNotV, tM0, tM1, gSub, rSetL, sFld, gCons_eq, gNil_eq, tCallS_eq, tDGet, sDPut, tMeth, tMake, tFld, tChain, tIsN, tNotN,
  List.set_cons_zero, List.set_cons_succ, exists_eq_left', exists_eq_left, exists_eq, V.int.injEq, V.str.injEq, V.bl.injEq, V.ref.injEq, List.cons.injEq, and_true, true_and, List.getElem?_cons_zero, List.getElem?_cons_succ, Option.some.injEq, List.append_nil, exists_and_left, cxOf_K, false_and, and_false, exists_false, false_or, or_false, exists_eq', exists_const, sg_eq, S_eq, S_toList, S_ne, tFor_eq, tLc_eq, iList_eq, iTup_eq, iRng1_eq, iStr_eq, decide_eq_true_eq, Bool.not_eq_true', decide_eq_false_iff_not, if_true, if_false, Bool.false_eq_true, reduceCtorEq, Bool.true_eq_false, decide_true, decide_false]
  generalize midT u (decide (x = 94)) (decide (z = 94)) = m at hparts hml hma
  refine ⟨m, rfl, hma, by omega, fun ht => ⟨(size_le (by simp only [List.length_cons, List.length_nil]; decide)), fun p hp => k (.join m (decide (x = 94)) (decide (z = 94))) _ _ (.inl ⟨ht, ?_⟩) ?_ (same_new hp) (.tup (st_of upd_same) (.cons (.str _) (.cons (.str _) (.cons (.bl _) (.cons (.bl _) .nil)))))⟩, ke⟩
  · by_cases h9 : x = 94
    · exact .inl (decide_eq_true h9)
    · exact .inr (decide_eq_true (Decidable.byContradiction fun q => hno ⟨h9, q⟩))
  · cases m with
    | nil => exact absurd ht.1 (by decide)
    | cons c m =>
      rw [hsp, ← hparts]
      simp [aText]
end
/-! ### an exception that leaves a list comprehension -/
section
open HandSPX
variable {M : Model} {A : Around} {E : Value → Shared → Prop} {s : Shared} {Z : Obj → Prop} {base : Heap} {env : Env} {outer l : List Env} {L e : Addr}
/-- a frame is noted by its address alone -/
theorem note_same {a b : Env} (v : Value) (h : a.frame = b.frame) : noteFrame v a = noteFrame v b := by
  unfold noteFrame PySem.frameOf
  rw [h]
/-- it is noted by this frame, whatever frame it was said to be in -/
theorem looks_any {fl : Value} {Q : Unit → Shared → Prop} (hZ : Steady Z) (hfr : A.frames = some (env :: outer)) (hf : env.frame = some L) (hkb : base.StaysIn s.heap) (hen : base.get? e = none) (hl : s.heap.FunFrames base (env :: outer)) (ht : TracedZ s.heap base e Z fl)
    (hQ : ∀ h', HeldZ base (env :: outer) e Z L h' → s.heap.UpToSlots h' → Q () { s with heap := h' }) : wpAny M A (noteFrame (.ref e) env) Q E s := by
  by_cases hfl : (fl == rawInt L) = true
  · rw [eq_of_beq hfl] at ht
    exact againZ hf ht (hQ s.heap ⟨hkb, hen, hl, ht⟩ (Heap.UpToSlots.refl _))
  obtain ⟨oe, vs, T, oT, ts, he, hz, hd, h1, hnT, hTe, hT, hdT, h3⟩ := ht
  have other : ∀ b, b ≠ T → (s.heap.update T (Obj.mapFields (·.setIfInBounds 3 Value.none))).get? b = s.heap.get? b := fun b hb => Heap.get?_update_other _ _ (Ne.symm hb)
  have ne : ∀ b o, s.heap.get? b = some o → (∀ vs, o.data ≠ .fields vs) → b ≠ T := fun b o hb hnf q => by
    subst q
    rw [hT] at hb
    cases hb
    exact hnf ts hdT
  unfold noteFrame
  simp only [hf]
  refine wpAny_bind (wpAny_field he hd h1 ?_)
  rw [if_pos (by simp)]
  refine wpAny_bind (wpAny_field hT hdT h3 ?_)
  rw [if_neg hfl]
  refine wpAny_bind (wpAny_setField hT hdT (Array.getElem?_eq_some_iff.mp h3).1 ?_)
  refine wpAny_entryZ hZ hfr (hl.of_keeps fun b o hb hnf => ⟨o, (other b (ne b o hb hnf)).trans hb, rfl⟩) hf ((other e (Ne.symm hTe)).trans he)
    (fun b o hbo => (other b fun q => by rw [q, hnT] at hbo; cases hbo).trans (hkb b o hbo)) hen hd (Array.getElem?_eq_some_iff.mp h1).1 hz fun h' ⟨x1, x2, x3, x4⟩ => ?_
  exact hQ h' ⟨x1, hen, x2, x3⟩ fun b o hb hnf => x4 b o ((other b (ne b o hb hnf)).trans hb) hnf
theorem sky_noted {B : Heap} {L0 : Addr} {Q : Unit → Shared → Prop} (hZ : Steady Z) (hfr : A.frames = some (env :: outer)) (hf : env.frame = some L) (x : Sky B (env :: outer) e Z L0 s.heap)
    (hQ : ∀ h', HeldZ B (env :: outer) e Z L h' → s.heap.UpToSlots h' → Q () { s with heap := h' }) : wpAny M A (noteFrame (.ref e) env) Q E s := by
  rcases x with ⟨k, n, f, oe, vs, he, hz, hd, h1⟩ | fl | hh
  · exact look_newZ hZ hfr f hf he k n hd h1 hz hQ
  · exact looks_onZ hZ hfr hf fl hQ
  · exact looks_any hZ hfr hf hh.1 hh.2.1 hh.2.2.1 hh.2.2.2 hQ
/-- the names' dict at C may be anything then: it is no part of the ground -/
theorem held_but {B h h2 : Heap} {C : Addr} {m m2 : Str → Option Value} (hn : h.Ns C m) (hn2 : h2.Ns C m2) (sb : Heap.SameBut C h h2) (hh : HeldZ B l e Z L h) : HeldZ (PySem.W.hideAll B [C]) l e Z L h2 := by
  obtain ⟨k, n, f, oe, vs, T, oT, ts, he, hz, hd, h1, hnT, hTe, hT, hdT, h3⟩ := hh
  obtain ⟨oC, es, ep, hoC, hdC, _⟩ := hn
  have neC : ∀ b o vs, h.get? b = some o → o.data = .fields vs → b ≠ C := fun b o vs hb hf q => by
    subst q
    rw [hoC] at hb
    cases hb
    rw [hdC] at hf
    cases hf
  have none_ : ∀ b, B.get? b = none → (PySem.W.hideAll B [C]).get? b = none := fun b hb => by
    cases q : (PySem.W.hideAll B [C]).get? b with
    | none => rfl
    | some o =>
      have := PySem.W.of_hideAll _ q
      rw [hb] at this
      cases this
  refine ⟨fun b o hb => ?_, none_ e n, funFrames_none (f.sameBut sb hn2) fun b hb => ?_, oe, vs, T, oT, ts, (sb.2 e (neC e oe vs he hd)).trans he, hz, hd, h1, none_ T hnT, hTe, (sb.2 T (neC T oT ts hT hdT)).trans hT, hdT, h3⟩
  · have hbC : b ≠ C := fun q => by
      rw [q, PySem.W.hideAll_none [C] (List.mem_singleton.mpr rfl)] at hb
      cases hb
    exact (sb.2 b hbC).trans (k b o (PySem.W.of_hideAll _ hb))
  · exact none_ b (f.mem hb).1
end
section
open HandSPX
variable {X : Cx}
/-- an exception of a comprehension's turn is one of the def around -/
theorem lcx_out {pins : List (Addr × Obj)} {σ : L2.St} {scope : Scope} {ce : Env} {fp : List Addr} {xe : Value → Shared → Prop} {W : WX} {E : XK} {s3 s' : Shared} {H3 : Hp} {acc u : Value} {Q : Value → Shared → Prop}
    (hs : X.stack = X.env :: X.outer) (hf : X.env.frame = some X.env.locals) (tk : Takes X W) (hW : ∀ c d σ H, E c d H → W c d σ H) (I3 : Inv X pins σ H3 s3) (f3 : ∀ b ∈ fp, FpOk X pins H3 b) (hcf : ce.frame = X.env.frame) (hcl : s3.heap.objs.size ≤ ce.locals)
    (x : XE ((X.blk s3 H3 scope ce fp).tr [] xe) (fun c d _ H => E c d H) u s') :
    notedBy (model X.prog X.w) X.A ce (fun e s' => compEnds (model X.prog X.w) X.A X.xe none Q acc ce (.error e) s') u s' := by
  obtain ⟨a, B, sI, pn, σ2, H2, cls, d, rfl, J, nb, up, sky, na, os, ag, w⟩ := x
  show wpAny _ X.A (noteFrame (.ref a) ce) _ _ s'
  rw [note_same _ hcf]
  have hfr : X.A.frames = some (X.env :: X.outer) := by rw [I3.ok.frames, hs]
  have sky2 : Sky B (X.env :: X.outer) a (Zc cls d) ce.locals s'.heap := by
    rw [← hs]
    exact sky
  refine sky_noted Zc.steady hfr hf sky2 fun h1 hh1 up1 => ?_
  obtain ⟨m, hn, _⟩ := J.loc
  have hn : sI.heap.Ns ce.locals m := hn
  have u01 := up.trans up1
  have hn1 : h1.Ns ce.locals m := hn.upToSlots u01
  refine ⟨m, hn1, fun h2 m2 hn2 sb => ?_⟩
  have hh2 := held_but hn1 hn2 sb hh1
  obtain ⟨_, _, _, oe, vs, T, _, _, he, _, hd, ht, _⟩ := id hh2
  unfold PySem.passOn
  refine wpAny_bind (wpAny_field he hd ht ?_)
  rw [if_neg (by simp)]
  refine wpAny_bind ?_
  rw [hcf, hf]
  refine setFlight_onZ hh2 fun h3 hh3 up3 => wpAny_throw (tk _ _ ?_)
  have inC : ∀ {h : Heap} {b : Addr} {o : Obj}, (PySem.W.hideAll h [ce.locals]).get? b = some o → h.get? b = some o ∧ b ≠ ce.locals := fun {h b o} hb => ⟨PySem.W.of_hideAll _ hb, fun q => by
    rw [q, PySem.W.hideAll_none _ (List.mem_singleton.mpr rfl)] at hb
    cases hb⟩
  have toC : ∀ {h : Heap} {b : Addr} {o : Obj}, h.get? b = some o → b ≠ ce.locals → (PySem.W.hideAll h [ce.locals]).get? b = some o := fun {h b o} hb q => PySem.W.hideAll_get _ hb fun z => q (List.mem_singleton.mp z)
  have old : ∀ b o, s3.heap.get? b = some o → b ≠ ce.locals := fun b o hb q => absurd (Heap.lt_size hb) (Nat.not_lt.mpr (by rw [q]; exact hcl))
  have nC : H2 ce.locals = none := J.free
  have bs : Un (frs X.stack) fp H3 H2 s3.heap sI.heap := J.base
  have I4 : Inv X pins σ H2 { sI with heap := PySem.W.hideAll sI.heap [ce.locals] } := by
    refine I3.call' (ch := fp) J.os ⟨fun b o q n1 n2 n3 => toC (bs.keep b o q n1 n2 n3) (old b o q), fun b o q n1 n2 n3 => ?_, bs.free, fun b o q n3 => ?_, bs.tups, bs.frzs, bs.tbls⟩ (fun b o q => ?_) J.bare fun b hb => ⟨(f3 b hb).2.2.2.1, (f3 b hb).2.1, (f3 b hb).2.2.2.2.1, (f3 b hb).2.2.2.2.2⟩
    · obtain ⟨sl, r⟩ := bs.slot b o q n1 n2 n3
      exact ⟨sl, toC r (old b o q)⟩
    · obtain ⟨o', r⟩ := bs.there b o q n3
      exact ⟨o', toC r (old b o q)⟩
    · refine (J.hok b o q).stay (fun c v hc r => toC r fun z => ?_) (fun _ r => r) fun _ _ r => r
      rw [z] at hc
      rcases hc with hc | hc
      · rw [← hc, nC] at q
        cases q
      · rw [nC] at hc
        cases hc
  refine ⟨a, PySem.W.hideAll B [ce.locals], _, pins, σ, H2, cls, d, rfl, I4, fun b o hb hx => ?_, fun b o hb hnf => ?_, .inr (.inr (by rw [hs]; exact hh3)), na, os, ag, hW _ _ _ _ w⟩
  · obtain ⟨q1, q2⟩ := inC hb
    exact toC (nb b o q1 hx) q2
  · obtain ⟨q1, q2⟩ := inC hb
    obtain ⟨sl, r1⟩ := u01 b o q1 hnf
    obtain ⟨sl2, r2⟩ := up3 b _ ((sb.2 b q2).trans r1) hnf
    exact ⟨sl2, r2⟩
/-- [elt for tg in iter], where elt may let an exception out -/
theorem pe_lcX {elt tg iter : Expr} {scope : Scope} {own : List (Str × Nat)} {pos : Pos} {wi : TI} {g : TG} {te : TE} {W : WX} {E : XK} (hs : X.stack = X.env :: X.outer) (hf : X.env.frame = some X.env.locals) (tk : Takes X W) (hW : ∀ c d σ H, E c d H → W c d σ H)
    (hc : X.calm = true) (hN : X.N.Nodup) (hi : PI X tg iter wi) (ok : BlkOk X.N X.env.scope scope own)
    (hg : ∀ (s : Shared) (H : Hp) (C : Addr) (cl : List (Str × Addr)) (fp : List Addr) (xe : Value → Shared → Prop), PG ((X.blk s H scope (compEnvC scope cl C X.env) fp).tr [] xe) tg g)
    (he : ∀ (s : Shared) (H : Hp) (C : Addr) (cl : List (Str × Addr)) (fp : List Addr) (xe : Value → Shared → Prop), Passes (L2.CX X.prog X.w) ((X.blk s H scope (compEnvC scope cl C X.env) fp).tr [] xe) E → PE ((X.blk s H scope (compEnvC scope cl C X.env) fp).tr [] xe) elt te)
    (hst : ∀ x, foldedSetIterable iter X.env x = pure x := by intro _; rfl) : PE X (.ListComp elt [⟨tg, iter, [], 0⟩] scope pos) (tLc wi g tYes te (own.map (·.2))) := by
  refine ⟨fun pins s σ H Q I h => ?_⟩
  rw [eval_ListComp]
  have caps : ∀ y ∈ scope.names, y.2 = .free → ∃ c, X.env.cells.lookup y.1 = some c := fun y hy q => (ok.free y hy q).elim (fun k => I.ok.has _ (.inl k)) fun k => I.ok.has _ (.inr k)
  refine comprehension_at (use := none) rfl hst (closure_ok caps) ok.kind (fun y hy q => by rw [ok.uniq y hy, q]) (thn (hi.run pins s σ H _ I h) fun _ s1 h1 => thn h1 fun _ s2 h2 => ?_)
  obtain ⟨it, fp, tn, J, H2, rfl, I2, T, st2, f2, q⟩ := h2
  refine wpAny_newObj_type (newEnv_comp ?_) (Nat.zero_le _)
  have nD : H2 s2.heap.objs.size = none := I2.hok.fresh (Nat.le_refl _)
  obtain ⟨V, ⟨m0, w0⟩, turn⟩ := q _ nD
  generalize eD : s2.heap.objs.size = D at nD w0 turn ⊢
  -- the list is laid
  generalize e3 : ({ s2 with heap := s2.heap.push { cls := .type "list", data := .seq ([] : List Value).toArray } } : Shared) = s3
  have k23 : ∀ b o, s2.heap.get? b = some o → s3.heap.get? b = some o := fun b o r => by
    rw [← e3]
    exact Heap.get?_push_of_some _ r
  have I3 : Inv X pins σ (upd H2 D (.lst [])) s3 := by
    subst e3
    refine I2.laid (t' := s2.toks) k23 (Nat.le_of_eq eD) ⟨Nat.zero_le _, [], 0, .nil, ?_⟩
    subst eD
    exact Heap.get?_push_size _ rfl
  have lt2 : ∀ b ∈ fp, b < D := fun b hb => by
    obtain ⟨o, r, _⟩ := T.obj _ _ st2 b hb
    rw [← eD]
    exact Heap.lt_size r
  have sz3 : s3.heap.objs.size = D + 1 := by
    rw [← e3, ← eD]
    exact Heap.size_push ..
  have f3 : ∀ b ∈ fp, FpOk X pins (upd H2 D (.lst [])) b ∧ b < s3.heap.objs.size := fun b hb =>
    ⟨⟨by rw [upd_ne (Nat.ne_of_lt (lt2 b hb))]; exact (f2 b hb).1, (f2 b hb).2⟩, by rw [sz3]; exact Nat.lt_succ_of_lt (lt2 b hb)⟩
  have nfp : ∀ b ∈ fp, upd H2 D (.lst []) b = none := fun b hb => (f3 b hb).1.1
  have st3 : tn 0 s3.heap := T.keep _ _ _ st2 fun b _ o r => k23 b o r
  -- the block
  have I4 := block_start I3 ok hN f3
  generalize ecl : cellsFrom (s3.heap.objs.size + 1) scope.names (cloFrom X.env.cells scope.names []) = cl at I4
  generalize eH : upd H2 D (.lst []) = H3 at I3 I4 w0 nfp f3
  generalize e4 : ({ s3 with heap := pushCells (s3.heap.push { cls := .type "dict", data := .dict #[] }) scope.names } : Shared) = s4 at I4
  have st4 : tn 0 s4.heap := T.keep _ _ _ st3 fun b _ o r => by
    rw [← e4]
    exact pushCells_keeps _ _ _ _ (Heap.get?_push_of_some _ r)
  subst ecl
  have pgs := hg s3 H3 s3.heap.objs.size (cellsFrom (s3.heap.objs.size + 1) scope.names (cloFrom X.env.cells scope.names [])) fp
  have pes := he s3 H3 s3.heap.objs.size (cellsFrom (s3.heap.objs.size + 1) scope.names (cloFrom X.env.cells scope.names [])) fp
  show codeAny _ _ (.compStart _ 0 (.ref it) _ (compEnvC scope (cellsFrom (s3.heap.objs.size + 1) scope.names (cloFrom X.env.cells scope.names [])) s3.heap.objs.size X.env)) (compEnds (model X.prog X.w) X.A X.xe none _ _ (compEnvC scope (cellsFrom (s3.heap.objs.size + 1) scope.names (cloFrom X.env.cells scope.names [])) s3.heap.objs.size X.env)) _
  generalize ece : compEnvC scope (cellsFrom (s3.heap.objs.size + 1) scope.names (cloFrom X.env.cells scope.names [])) s3.heap.objs.size X.env = ce at I4 pgs pes ⊢
  have cL : ce.locals = s3.heap.objs.size := by
    subst ece
    rfl
  have cF : ce.frame = X.env.frame := by
    subst ece
    rfl
  have toY : ∀ xe, L2.Inv ((X.blk s3 H3 scope ce fp).tr [] xe) [] (wipe σ (own.map fun p : Str × Nat => p.2)) H3 s4 := fun xe => I4.toTry (pins := []) xe
  generalize hY : notedBy (model X.prog X.w) X.A ce (fun e s' => compEnds (model X.prog X.w) X.A X.xe none (EP X pins σ Q) (.ref D) ce (.error e) s') = xe
  have out : Passes (L2.CX X.prog X.w) ((X.blk s3 H3 scope ce fp).tr [] xe) E := fun pn σ' H' s e s' I' c => by
    subst hY
    exact lcx_out hs hf tk hW I3 (fun b hb => (f3 b hb).1) cF (Nat.le_of_eq cL.symm) (XE.of_call I' (fun _ _ _ z => z) c)
  have stat : ∀ {σ' : L2.St} {H' : Hp} {s' : Shared}, Inv ((X.blk s3 H3 scope ce fp).tr [] xe) [] σ' H' s' → (∀ b ∈ fp, H' b = none) → ∀ b ∈ fp, FpOk ((X.blk s3 H3 scope ce fp).tr [] xe) [] H' b :=
    fun {σ' H' s'} I' hn b hb => ⟨hn b hb, (I'.ok.exf b hb).1, I'.ok.exfs b hb, .inl hb, fun x c r => (I'.ok.exf b hb).2 x c r, fun p hp => absurd (show p ∈ ([] : List (Addr × Obj)) from hp) List.not_mem_nil⟩
  have loop : codeAny (model X.prog X.w) X.A (.compLoop (.ListComp elt [⟨tg, iter, [], 0⟩] scope pos) 0 (.ref it) (.ref D) ce) (compEnds (model X.prog X.w) X.A X.xe none (EP X pins σ Q) (.ref D) ce) s4 := by
    refine compLoop_any (fun n s' => ∃ i H', Inv ((X.blk s3 H3 scope ce fp).tr [] xe) [] (wipe σ (own.map fun p : Str × Nat => p.2)) H' s' ∧ tn i s'.heap ∧ (∀ b ∈ fp, H' b = none) ∧ V i n H') ?_ m0 ⟨0, H3, toY xe, st4, nfp, w0⟩
    rw [hY]
    rintro n s5 ⟨i, H5, I5, st5, n5, w5⟩
    rcases turn i n H5 w5 with ⟨stop, fin⟩ | ⟨go, Nx, hNx, step⟩
    · -- no item is left
      refine thnF (T.done ((X.blk s3 H3 scope ce fp).tr [] xe) rfl rfl rfl hc i [] s5 _ H5 (fun _ _ => False) I5 (stat I5 n5) st5 stop) fun r s6 ⟨hr, I6⟩ => ?_
      subst hr
      have I7 : Inv X pins σ H5 s6 := I3.call' (ch := fp) I6.os I6.base I6.hok I6.bare fun b hb => ⟨(f3 b hb).1.2.2.2.1, (f3 b hb).1.2.1, (f3 b hb).1.2.2.2.2.1, (f3 b hb).1.2.2.2.2.2⟩
      obtain ⟨m, hn, _⟩ := I6.loc
      have nC : H5 ce.locals = none := I6.free
      obtain ⟨f0, f1, _, f3', f4, f5⟩ := I3.fpOk (H' := H5) (Nat.le_of_eq cL.symm) nC
      exact ⟨m, hn, fun h'' sb => ⟨.ref D, H5, I7.turned (t' := s6.toks) (fun b o hb r => (sb.2 b hb).trans r) f0 f1 f3' f4 f5, rfl, fin⟩⟩
    · refine thnF (T.item ((X.blk s3 H3 scope ce fp).tr [] xe) rfl rfl rfl hc i [] s5 _ H5 (fun _ _ => False) I5 (stat I5 n5) st5 go) fun r s6 ⟨u, hr, h6⟩ => ?_
      subst hr
      refine thnF h6 fun _ s7 ⟨x, H7, I7, r7, y7, st7, n7⟩ => ?_
      refine thn ((pgs xe).run _ s7 _ H7 x u _ (I7.pinned (stat I7 n7) (T.obj _ _ st7)) r7 (step x H7 y7)) fun _ s8 ⟨σ8, H8, I8, hw8, q8⟩ => ?_
      have next : ∀ {s' : Shared} {H' : Hp}, Inv ((X.blk s3 H3 scope ce fp).tr [] xe) ([] ++ pinsAt fp s7.heap) σ8 H' s' → Nx H' → ∃ m, m < n ∧ ∃ i H', Inv ((X.blk s3 H3 scope ce fp).tr [] xe) [] (wipe σ (own.map fun p : Str × Nat => p.2)) H' s' ∧ tn i s'.heap ∧ (∀ b ∈ fp, H' b = none) ∧ V i m H' := fun {s' H'} I' nx => by
        obtain ⟨m', hm, w'⟩ := hNx H' nx
        have pin : ∀ b ∈ fp, ∀ o, s7.heap.get? b = some o → s'.heap.get? b = some o ∧ H' b = none := fun b hb o r => by
          have z := I'.pin (b, o) (List.mem_append_right _ (List.mem_append_right _ (mem_pinsAt hb r)))
          exact ⟨z.1, z.2.1⟩
        refine ⟨m', hm, i + 1, H', I'.unpinned.weak (by rw [← hw8, wipe_length]) (fun j v r => ?_), T.keep _ _ _ st7 fun b hb o r => (pin b hb o r).1, fun b hb => ?_, w'⟩
        · rw [← hw8] at r
          exact (wipe_some r).1
        · obtain ⟨o, r, _⟩ := T.obj _ _ st7 b hb
          exact (pin b hb o r).2
      refine thn ((pts_nil (X := (X.blk s3 H3 scope ce fp).tr [] xe)).run _ s8 σ8 H8 _ I8 q8) fun b s9 ⟨H9, I9, q9⟩ => ?_
      cases b with
      | false =>
        simp only [Bool.false_eq_true, if_false] at q9 ⊢
        exact next I9 q9
      | true =>
        simp only [if_true] at q9 ⊢
        refine thn ((pes xe out).run _ s9 σ8 H9 _ I9 q9) fun _ s10 ⟨yv, H10, I10, r10, acc, hD10, hz10, nx⟩ => ?_
        exact app_ok (X := (X.blk s3 H3 scope ce fp).tr [] xe) I10 hD10 hz10 r10 fun s11 I11 => next I11 nx
  exact codeAny_compStart_list loop (T.self X.A 0 _ _ _ st4 loop)
end
/-! ### what is read: an entry, else BadEntry -/
/-- back and again stand alone -/
def entOk4 (e : List Act) : Prop := e ≠ [] ∧ e.length ≤ 4 ∧ (∀ a ∈ e, actOk a) ∧ (2 ≤ e.length → ∀ a ∈ e, plainA a)
def kindT : Act → Tx
  | .word _ => wWord
  | .glue _ => wGlue
  | .join _ _ _ => wJoin
  | .stop _ => wStop
  | .great => wGreat
  | .all => wAll
  | .last => wLast
  | .back => wBack
  | .again => wAgain
theorem act_head {K : PySem.W.Frag} {H : Hp} {v : V} {a : Act} (h : Dp K H v (actD a)) : ∃ q xs, v = .ref q ∧ SqT K H q (.str (S (kindT a)) :: xs) := by
  cases a with
  | word t => obtain ⟨q, rfl, hq⟩ := dp2 h; exact ⟨q, _, rfl, hq⟩
  | glue t => obtain ⟨q, rfl, hq⟩ := dp2 h; exact ⟨q, _, rfl, hq⟩
  | join t l r => obtain ⟨q, rfl, hq⟩ := dp4 h; exact ⟨q, _, rfl, hq⟩
  | stop c => obtain ⟨q, rfl, hq⟩ := dp2 h; exact ⟨q, _, rfl, hq⟩
  | great => obtain ⟨q, rfl, hq⟩ := dp1 h; exact ⟨q, _, rfl, hq⟩
  | all => obtain ⟨q, rfl, hq⟩ := dp1 h; exact ⟨q, _, rfl, hq⟩
  | last => obtain ⟨q, rfl, hq⟩ := dp1 h; exact ⟨q, _, rfl, hq⟩
  | back => obtain ⟨q, rfl, hq⟩ := dp1 h; exact ⟨q, _, rfl, hq⟩
  | again => obtain ⟨q, rfl, hq⟩ := dp1 h; exact ⟨q, _, rfl, hq⟩
/-- is it back or again -/
def lone : Act → Bool
  | .back => true
  | .again => true
  | _ => false
theorem lone_kind (a : Act) : ([wBack, wAgain] : List Tx).contains (kindT a) = lone a := by
  cases a <;> rfl
theorem plain_lone {a : Act} (h : lone a = false) : plainA a := by
  cases a <;> first | trivial | cases h
/-- a text's pieces between blanks -/
def cutB : Tx → List Tx
  | [] => [[]]
  | c :: r => if c = 32 then [] :: cutB r else match cutB r with
    | [] => [[c]]
    | p :: q => (c :: p) :: q
theorem cutB_ne : ∀ t, cutB t ≠ []
  | [] => by simp [cutB]
  | c :: r => by
    unfold cutB
    split
    · simp
    · split <;> simp
theorem jT_cons (p : Tx) (c : Nat) (q : List Tx) : jT ((c :: p) :: q) = c :: jT (p :: q) := by
  cases q <;> rfl
theorem jT_cutB : ∀ t, jT (cutB t) = t
  | [] => rfl
  | c :: r => by
    have ih := jT_cutB r
    have ne := cutB_ne r
    unfold cutB
    split
    · rename_i h
      subst h
      cases hq : cutB r with
      | nil => exact absurd hq ne
      | cons p q =>
        rw [hq] at ih
        show [] ++ ([32] ++ jT (p :: q)) = _
        rw [ih]
        rfl
    · cases hq : cutB r with
      | nil => exact absurd hq ne
      | cons p q =>
        rw [hq] at ih
        show jT ((c :: p) :: q) = _
        rw [jT_cons, ih]
theorem cutB_no : ∀ t, ∀ p ∈ cutB t, 32 ∉ p
  | [], p, hp => by
    rw [List.mem_singleton.mp hp]
    simp
  | c :: r, p, hp => by
    have ih := cutB_no r
    have ne := cutB_ne r
    unfold cutB at hp
    split at hp
    · rcases List.mem_cons.mp hp with rfl | hp
      · simp
      · exact ih p hp
    · rename_i h
      cases hq : cutB r with
      | nil => exact absurd hq ne
      | cons p1 q =>
        rw [hq] at hp ih
        rcases List.mem_cons.mp hp with rfl | hp
        · intro z
          rcases List.mem_cons.mp z with z | z
          · exact h z.symm
          · exact ih p1 List.mem_cons_self z
        · exact ih p (List.mem_cons_of_mem _ hp)
theorem cutB_mem : ∀ t, ∀ p ∈ cutB t, (∀ c ∈ p, c ∈ t) ∧ p.length ≤ t.length
  | [], p, hp => by
    rw [List.mem_singleton.mp hp]
    simp
  | c :: r, p, hp => by
    have ih := cutB_mem r
    have ne := cutB_ne r
    unfold cutB at hp
    split at hp
    · rcases List.mem_cons.mp hp with rfl | hp
      · simp
      · exact ⟨fun x hx => List.mem_cons_of_mem _ ((ih p hp).1 x hx), Nat.le_succ_of_le (ih p hp).2⟩
    · cases hq : cutB r with
      | nil => exact absurd hq ne
      | cons p1 q =>
        rw [hq] at hp ih
        rcases List.mem_cons.mp hp with rfl | hp
        · refine ⟨fun x hx => ?_, Nat.succ_le_succ (ih p1 List.mem_cons_self).2⟩
          rcases List.mem_cons.mp hx with rfl | hx
          · exact List.mem_cons_self
          · exact List.mem_cons_of_mem _ ((ih p1 List.mem_cons_self).1 x hx)
        · have := ih p (List.mem_cons_of_mem _ hp)
          exact ⟨fun x hx => List.mem_cons_of_mem _ (this.1 x hx), Nat.le_succ_of_le this.2⟩
theorem cutB_len : ∀ t, (cutB t).length ≤ t.length + 1
  | [] => Nat.le_refl _
  | c :: r => by
    have ih := cutB_len r
    have ne := cutB_ne r
    unfold cutB
    split
    · simp only [List.length_cons]
      omega
    · cases hq : cutB r with
      | nil => exact absurd hq ne
      | cons p q =>
        rw [hq] at ih
        simp only [List.length_cons] at *
        omega
theorem ents_shaped {e : List Act} (hl : e.length ≤ 10000) (h : ∀ a ∈ e, actOk a) : SeqAt.shaped (.list (e.map actD)) = true := okD.shaped (n := 4) ⟨by rw [List.length_map]; omega, fun d hd => by
  obtain ⟨a, ha, rfl⟩ := List.mem_map.mp hd
  exact act_ok (h a ha)⟩ (by decide)
def sp_rentryX (K : PySem.W.Frag) : Sp := fun vs H Q E => ∃ t : Tx, vs = [.str (S t)] ∧ asc t ∧ t.length ≤ 1000 ∧ (∀ e v H', entOk4 e → eText e = t → Same H H' → Dp K H' v (entD e) → Q v H') ∧ ∀ H', Same H H' → E (CBad K) none H'
abbrev s_read_entry : Stmt := (top 13)
theorem sc_read_entry : FnScope ["text", "entry", "word", "action"] ["text"] (defScope s_read_entry) := ⟨rfl, rfl, rfl, by decide +kernel, rfl, by decide +kernel, by decide +kernel⟩

section
variable {P : Program} {w : World} {K : PySem.W.Frag} {mg : Str → Option Value} {base : Heap}
theorem ok_rentryX {f : Addr} {fd : FuncData} (F : FunS K "read_entry" s_read_entry f fd) (b_len : mg "len" = none) (b_tuple : mg "tuple" = none) (g_MOST_ACTIONS : ∃ u, mg "MOST_ACTIONS" = some u ∧ RelV (.int 4) u) (ex : ExF K mg) (c_read_action : CalX P w K mg base 2 "read_action" (sp_ractionX K)) : FnOk P w K mg base (L2.CX P w) 3 f fd ["text"] (sp_rentryX K) := by
  refine F.ok sc_read_entry (fun vs H Q E h => ?_) (fun cdv A outer s H vs Q E hr h => ?_)
  · obtain ⟨v, rfl, _⟩ := h
    rfl
  obtain ⟨t, rfl, ta, tl, k, ke⟩ := h
  refine ⟨_, (pss_cons (ps_set (i := 1) sc_read_entry.nd rfl (.inl rfl) (pe_callTy call_tuple_of (by rfl) b_tuple (by decide +kernel) (pa_cons (pe_lcX (own := [("word", 2)]) rfl rfl (takes_of rfl rfl rfl rfl) (fun _ _ _ _ h => h) rfl sc_read_entry.nd (pi_list (pe_split (pv 0) pe_str)) (blkOk_by (N := ["text", "entry", "word", "action"]) (sc := defScope s_read_entry) (own := [("word", 2)]) (by decide +kernel)) (fun _ _ _ _ _ _ => (pg_name (i := 2) sc_read_entry.nd rfl (.inl rfl))) (fun _ _ _ _ _ _ out => (pe_cx c_read_action hr (by first | decide | omega) (by rfl) out (pa_cons (pv 2) pa_nil)))) pa_nil)))
  (pss_cons (ps_if (pt_cmpR op_gt (pe_callB call_len_seq (by rfl) b_len PySem.boot_len (pa_cons (pv 1) pa_nil)) (pe_gc (by rfl) g_MOST_ACTIONS) (nomark _))
    (pss_one (ps_raise rfl (takes_of rfl rfl rfl rfl) (pmk_own PySem.F.excBase_ValueError ex.x_BadEntry ex.g_BadEntry ex.k_BadEntry (raises_own ex.b_BadEntry ex.t_BadEntry) rfl)))
    pss_nil)
  (pss_cons (ps_if (PW.pt (pw_and (pt_cmpR op_gt (pe_callB call_len_seq (by rfl) b_len PySem.boot_len (pa_cons (pv 1) pa_nil)) pe_int (nomark _)) (pw_and1 (pt_cmpR (op_neD hr.units) (pe_lc (own := [("action", 3)]) rfl sc_read_entry.nd (pi_tup (pv 1)) (blkOk_by (N := ["text", "entry", "word", "action"]) (sc := defScope s_read_entry) (own := [("action", 3)]) (by decide +kernel)) (fun _ _ _ _ _ => (pg_name (i := 3) sc_read_entry.nd rfl (.inl rfl))) (fun _ _ _ _ _ => (pts_one (pt_cmpR (inK (K := K) op_in_seq rfl) (pe_ix (ixK_tup (K := K) rfl) (pv 3) pe_int (fun _ _ => rfl)) (pe_tup (pa_cons pe_str (pa_cons pe_str pa_nil))) (by rfl)))) (fun _ _ _ _ _ => (pv 3))) (pe_lst pa_nil) (nomark _)))))
    (pss_one (ps_raise rfl (takes_of rfl rfl rfl rfl) (pmk_own PySem.F.excBase_ValueError ex.x_BadEntry ex.g_BadEntry ex.k_BadEntry (raises_own ex.b_BadEntry ex.t_BadEntry) rfl)))
    pss_nil)
  (pss_one (ps_ret (pv 1)))))), ?_⟩
  have hsplit := split_ent (cutB_ne t) (cutB_no t)
  rw [jT_cutB] at hsplit
  have hcl := cutB_len t
  have hcm := cutB_mem t
  have hjt := jT_cutB t
  have hne := cutB_ne t
  generalize cutB t = ps at hsplit hcl hcm hjt hne
  simp only [tSeq, tAsg, tAnd, tOr, tNot, tTest, tB, tOp, tUn, tCB, tCons, tNil, tVar, tC, gName, rI0, rI, rU, rEq, rNe, rIxS, rIxL, rIxT, tRet, tRetN, tTup, tLst, tSl, tPart, tNoPart, rSlS, tIf, tNext, tDrop, tCall, tBM, tBM0, tAndV, tOrV, tNotV, tM0, tM1, gSub, rSetL, sFld, gCons_eq, gNil_eq, tCallS_eq, tDGet, sDPut, tMeth, tMake, tFld, tChain, tIsN, tNotN,
  List.set_cons_zero, List.set_cons_succ, exists_eq_left', exists_eq_left, exists_eq, V.int.injEq, V.str.injEq, V.bl.injEq, V.ref.injEq, List.cons.injEq, and_true, true_and, List.getElem?_cons_zero, List.getElem?_cons_succ, Option.some.injEq, List.append_nil, exists_and_left, cxOf_K, false_and, and_false, exists_false, false_or, or_false, exists_eq', exists_const, sg_eq, S_eq, S_toList, S_ne, tFor_eq, tLc_eq, iList_eq, iTup_eq, iRng1_eq, iStr_eq, decide_eq_true_eq, Bool.not_eq_true', decide_eq_false_iff_not, if_true, if_false, Bool.false_eq_true, reduceCtorEq, Bool.true_eq_false, decide_true, decide_false, lit_116_111_111_32_109_97_110_121_32_97_99_116_105_111_110_115, lit_116_104_105_115_32_115_116_97_110_100_115_32_97_108_111_110_101, lit_32, lit_98_97_99_107, lit_97_103_97_105_110, start1_4, hsplit, rNewStrs]
  refine ⟨rfl, size_le (by rw [S_len]; omega), ?_⟩
  (intro p np; generalize hqp : upd H p _ = H1; obtain ⟨s1, f1⟩ := al_ np hqp; clear hqp)
  refine ⟨⟨_, sq_of f1⟩, fun L hL => ?_⟩
  refine comp_list ((ps.map SX.S).map V.str) (fun r acc H' => Same H1 H' ∧ ∃ (todo : List Tx) (done : List Act), ps = done.map aText ++ todo ∧ r = (todo.map SX.S).map V.str ∧ (∀ a ∈ done, actOk a) ∧ DpAll K H' acc (done.map actD)) (by rw [List.length_map, List.length_map]; omega) ⟨same_new hL, ps, [], rfl, rfl, fun _ z => (nomatch z), .nil⟩ upd_same (fun r acc H' h => same_l h.1 (sq_of f1)) ?_ ?_
  · rintro i x r acc H3 hA hn hi ⟨s3, todo, done, e3, hr3, hd1, hd2⟩
    cases todo with
    | nil => cases hr3
    | cons p todo =>
      cases hr3
      have hp := hcm p (by rw [e3]; exact List.mem_append_right _ List.mem_cons_self)
      simp only [wipe, List.map_cons, List.map_nil, List.set_cons_succ, List.set_cons_zero, tSeq, tAsg, tAnd, tOr, tNot, tTest, tB, tOp, tUn, tCB, tCons, tNil, tVar, tC, gName, rI0, rI, rU, rEq, rNe, rIxS, rIxL, rIxT, tRet, tRetN, tTup, tLst, tSl, tPart, tNoPart, rSlS, tIf, tIfS, tNext, tDrop, tCall, tBM, tBM0, tAndV, tOrV, tNotV, tM0, tM1, gSub, rSetL, sFld, gCons_eq, gNil_eq, tCallS_eq, tDGet, sDPut, tMeth, tMake, tFld, tChain, tIsN, tNotN,
  List.set_cons_zero, List.set_cons_succ, exists_eq_left', exists_eq_left, exists_eq, V.int.injEq, V.str.injEq, V.bl.injEq, V.ref.injEq, List.cons.injEq, and_true, true_and, List.getElem?_cons_zero, List.getElem?_cons_succ, Option.some.injEq, List.append_nil, exists_and_left, cxOf_K, false_and, and_false, exists_false, false_or, or_false, exists_eq', exists_const, sg_eq, S_eq, S_toList, S_ne, tFor_eq, tLc_eq, iList_eq, iTup_eq, iRng1_eq, iStr_eq, decide_eq_true_eq, Bool.not_eq_true', decide_eq_false_iff_not, if_true, if_false, Bool.false_eq_true, reduceCtorEq, Bool.true_eq_false, decide_true, decide_false]
      unfold tYes
      simp only [if_true]
      refine ⟨p, rfl, fun c hc => ta c (hp.1 c hc), by omega, fun a v H4 ha ht s4 hv => cput (s4 _ _ hA) hn hi ⟨same_mut (s3.trans s4) hL, todo, done ++ [a], by rw [e3, List.map_append, List.map_singleton, ht]; simp, rfl, fun b hb => ?_, ?_⟩, ke _ (s1.trans s3)⟩
      · rcases List.mem_append.mp hb with hb | hb
        · exact hd1 b hb
        · rw [List.mem_singleton.mp hb]
          exact ha
      · rw [List.map_append]
        exact DpAll.app (DpAll.kt ((KT.of s4).trans (KT.putL (s4 _ _ hA))) (ents_noL done) hd2) (.cons (Dp.kt (KT.putL (s4 _ _ hA)) (act_noL a) hv) .nil)
  rintro acc H3 hA hn ⟨s3, todo, e, e3, hr3, hd1, hd⟩
  cases todo with
  | cons a todo => cases hr3
  | nil =>
  rw [List.append_nil] at e3
  subst e3
  refine ⟨L, rfl, acc, .inl ⟨sq_of hA, fun l nl => ?_⟩⟩
  have hal := DpAll.len hd
  rw [List.length_map] at hal
  rw [List.length_map] at hcl
  generalize hl : upd H3 l _ = H5
  obtain ⟨s5, f5⟩ := al_ nl hl
  have hd5 := DpAll.ext s5 hd
  have s05 : Same H H5 := (s1.trans s3).trans s5
  have hen : e ≠ [] := fun z => hne (by rw [z]; rfl)
  refine if_pure (decide (4 < e.length)) (fun R rr => ?_) (fun _ => ke _ s05) (fun e4 => ?_)
  · simp only [tSeq, tAsg, tAnd, tOr, tNot, tTest, tB, tOp, tUn, tCB, tCons, tNil, tVar, tC, gName, rI0, rI, rU, rEq, rNe, rIxS, rIxL, rIxT, tRet, tRetN, tTup, tLst, tSl, tPart, tNoPart, rSlS, tIf, tIfS, tNext, tDrop, tCall, tBM, tBM0, tAndV, tOrV, tNotV, tM0, tM1, gSub, rSetL, sFld, gCons_eq, gNil_eq, tCallS_eq, tDGet, sDPut, tMeth, tMake, tFld, tChain, tIsN, tNotN,
  List.set_cons_zero, List.set_cons_succ, exists_eq_left', exists_eq_left, exists_eq, V.int.injEq, V.str.injEq, V.bl.injEq, V.ref.injEq, List.cons.injEq, and_true, true_and, List.getElem?_cons_zero, List.getElem?_cons_succ, Option.some.injEq, List.append_nil, exists_and_left, cxOf_K, false_and, and_false, exists_false, false_or, or_false, exists_eq', exists_const, sg_eq, S_eq, S_toList, S_ne, tFor_eq, tLc_eq, iList_eq, iTup_eq, iRng1_eq, iStr_eq, decide_eq_true_eq, Bool.not_eq_true', decide_eq_false_iff_not, if_true, if_false, Bool.false_eq_true, reduceCtorEq, Bool.true_eq_false, decide_true, decide_false]
    refine ⟨_, .inr (st_of f5), ?_⟩
    have e9 : decide ((4 : Int) < acc.length) = decide (4 < e.length) := by
      rw [Bool.eq_iff_iff]
      simp
      omega
    rw [e9]
    exact rr
  have h4 : e.length ≤ 4 := by
    have := of_decide_eq_false e4
    omega
  simp only [tSeq, tAsg, tAnd, tOr, tNot, tTest, tB, tOp, tUn, tCB, tCons, tNil, tVar, tC, gName, rI0, rI, rU, rEq, rNe, rIxS, rIxL, rIxT, tRet, tRetN, tTup, tLst, tSl, tPart, tNoPart, rSlS, tIf, tNext, tDrop, tCall, tBM, tBM0, tAndV, tOrV, tNotV, tM0, tM1, gSub, rSetL, sFld, gCons_eq, gNil_eq, tCallS_eq, tDGet, sDPut, tMeth, tMake, tFld, tChain, tIsN, tNotN,
  List.set_cons_zero, List.set_cons_succ, exists_eq_left', exists_eq_left, exists_eq, V.int.injEq, V.str.injEq, V.bl.injEq, V.ref.injEq, List.cons.injEq, and_true, true_and, List.getElem?_cons_zero, List.getElem?_cons_succ, Option.some.injEq, List.append_nil, exists_and_left, cxOf_K, false_and, and_false, exists_false, false_or, or_false, exists_eq', exists_const, sg_eq, S_eq, S_toList, S_ne, tFor_eq, tLc_eq, iList_eq, iTup_eq, iRng1_eq, iStr_eq, decide_eq_true_eq, Bool.not_eq_true', decide_eq_false_iff_not, if_true, if_false, Bool.false_eq_true, reduceCtorEq, Bool.true_eq_false, decide_true, decide_false]
  refine if_new (decide (1 < e.length) && !(e.filter lone).isEmpty) (fun R rr => ?_) (fun _ H6 s6 => ke _ (s05.trans s6)) (fun e6 H6 s6 => ?_)
  · simp only [tSeq, tAsg, tAnd, tOr, tNot, tTest, tB, tOp, tUn, tCB, tCons, tNil, tVar, tC, gName, rI0, rI, rU, rEq, rNe, rIxS, rIxL, rIxT, tRet, tRetN, tTup, tLst, tSl, tPart, tNoPart, rSlS, tIf, tIfS, tNext, tDrop, tCall, tBM, tBM0, tAndV, tOrV, tNotV, tM0, tM1, gSub, rSetL, sFld, gCons_eq, gNil_eq, tCallS_eq, tDGet, sDPut, tMeth, tMake, tFld, tChain, tIsN, tNotN,
  List.set_cons_zero, List.set_cons_succ, exists_eq_left', exists_eq_left, exists_eq, V.int.injEq, V.str.injEq, V.bl.injEq, V.ref.injEq, List.cons.injEq, and_true, true_and, List.getElem?_cons_zero, List.getElem?_cons_succ, Option.some.injEq, List.append_nil, exists_and_left, cxOf_K, false_and, and_false, exists_false, false_or, or_false, exists_eq', exists_const, sg_eq, S_eq, S_toList, S_ne, tFor_eq, tLc_eq, iList_eq, iTup_eq, iRng1_eq, iStr_eq, decide_eq_true_eq, Bool.not_eq_true', decide_eq_false_iff_not, if_true, if_false, Bool.false_eq_true, reduceCtorEq, Bool.true_eq_false, decide_true, decide_false]
    refine ⟨_, .inr (st_of f5), ?_⟩
    by_cases h1 : 1 < acc.length
    · rw [if_pos (by omega)]
      rw [decide_eq_true (by omega : 1 < e.length), Bool.true_and] at rr
      refine ⟨⟨_, st_of f5⟩, fun L2 hL2 => ?_⟩
      refine comp_tup acc (fun r acc2 H' => Same H5 H' ∧ ∃ done todo : List Act, e = done ++ todo ∧ DpAll K H' r (todo.map actD) ∧ DpAll K H' acc2 ((done.filter lone).map actD)) (by omega) ⟨same_new hL2, [], e, rfl, DpAll.ext (same_new hL2) hd5, .nil⟩ upd_same (fun r acc2 H' h => same_t h.1 (st_of f5)) ?_ ?_
      · rintro i x r acc2 H6 hA6 hn6 hi6 ⟨s6, done, todo, he6, hd6, hf6⟩
        cases todo with
        | nil => cases hd6
        | cons a todo =>
          obtain ⟨v, r', ex, hv, hr6⟩ := dps_cons hd6
          cases ex
          obtain ⟨q, xs, rfl, hq⟩ := act_head hv
          simp only [wipe, List.map_cons, List.map_nil, List.set_cons_succ, List.set_cons_zero, tSeq, tAsg, tAnd, tOr, tNot, tTest, tB, tOp, tUn, tCB, tCons, tNil, tVar, tC, gName, rI0, rI, rU, rEq, rNe, rIxS, rIxL, rIxT, tRet, tRetN, tTup, tLst, tSl, tPart, tNoPart, rSlS, tIf, tIfS, tNext, tDrop, tCall, tBM, tBM0, tAndV, tOrV, tNotV, tM0, tM1, gSub, rSetL, sFld, gCons_eq, gNil_eq, tCallS_eq, tDGet, sDPut, tMeth, tMake, tFld, tChain, tIsN, tNotN,
  List.set_cons_zero, List.set_cons_succ, exists_eq_left', exists_eq_left, exists_eq, V.int.injEq, V.str.injEq, V.bl.injEq, V.ref.injEq, List.cons.injEq, and_true, true_and, List.getElem?_cons_zero, List.getElem?_cons_succ, Option.some.injEq, List.append_nil, exists_and_left, cxOf_K, false_and, and_false, exists_false, false_or, or_false, exists_eq', exists_const, sg_eq, S_eq, S_toList, S_ne, tFor_eq, tLc_eq, iList_eq, iTup_eq, iRng1_eq, iStr_eq, decide_eq_true_eq, Bool.not_eq_true', decide_eq_false_iff_not, if_true, if_false, Bool.false_eq_true, reduceCtorEq, Bool.true_eq_false, decide_true, decide_false]
          refine ⟨_, hq, _, at0 _ _, (size_le (by simp only [List.length_cons, List.length_nil]; decide)), fun p2 n2 => in_tup false (kindT a) [wBack, wAgain] n2 fun H7 s7 => ⟨_, rfl, ?_⟩⟩
          rw [lone_kind]
          simp only [Bool.false_eq_true, if_false]
          have hA7 := s7 _ _ hA6
          cases hlo : lone a with
          | false =>
            simp only [Bool.false_eq_true, if_false]
            exact cskip hA7 hn6 ⟨s6.trans s7, done ++ [a], todo, by rw [he6]; simp, DpAll.ext s7 hr6, by rw [List.filter_append]; simpa [hlo] using DpAll.ext s7 hf6⟩
          | true =>
            simp only [if_true]
            refine cput hA7 hn6 hi6 ⟨same_mut (s6.trans s7) hL2, done ++ [a], todo, by rw [he6]; simp, DpAll.kt (KT.putL hA7) (ents_noL todo) (DpAll.ext s7 hr6), ?_⟩
            rw [List.filter_append, show [a].filter lone = [a] from by simp [hlo], List.map_append]
            exact DpAll.app (DpAll.kt ((KT.of s7).trans (KT.putL hA7)) (ents_noL _) hf6) (.cons (Dp.kt ((KT.of s7).trans (KT.putL hA7)) (act_noL a) hv) .nil)
      · rintro acc2 H6 hA6 hn6 ⟨s6, done, todo, he6, hd6, hf6⟩
        cases todo with
        | cons a todo => cases hd6
        | nil =>
        rw [List.append_nil] at he6
        subst he6
        refine ⟨(size_le (by simp only [List.length_cons, List.length_nil]; decide)), fun p2 np2 => ?_⟩
        have g1 : upd H6 p2 (HO.lst []) L2 = some (.lst acc2) := (same_new np2) _ _ hA6
        refine ⟨_, .list [], .lst (sq_of g1) (DpAll.ext (same_new np2) hf6), .lst (sq_of upd_same) .nil, ents_shaped (Nat.le_trans (List.length_filter_le _ _) (by omega)) (fun a ha => hd1 a (List.mem_filter.mp ha).1), rfl, _, rfl, ?_⟩
        rw [eqv_nil]
        have e9 : ((e.filter lone).map actD).isEmpty = (e.filter lone).isEmpty := by
          cases e.filter lone <;> rfl
        rw [e9]
        exact rr _ (s6.trans (same_new np2))
    · rw [if_neg (by omega)]
      rw [decide_eq_false (by omega : ¬ 1 < e.length), Bool.false_and] at rr
      exact rr _ (Same.refl _)
  · simp only [tSeq, tAsg, tAnd, tOr, tNot, tTest, tB, tOp, tUn, tCB, tCons, tNil, tVar, tC, gName, rI0, rI, rU, rEq, rNe, rIxS, rIxL, rIxT, tRet, tRetN, tTup, tLst, tSl, tPart, tNoPart, rSlS, tIf, tIfS, tNext, tDrop, tCall, tBM, tBM0, tAndV, tOrV, tNotV, tM0, tM1, gSub, rSetL, sFld, gCons_eq, gNil_eq, tCallS_eq, tDGet, sDPut, tMeth, tMake, tFld, tChain, tIsN, tNotN,
  List.set_cons_zero, List.set_cons_succ, exists_eq_left', exists_eq_left, exists_eq, V.int.injEq, V.str.injEq, V.bl.injEq, V.ref.injEq, List.cons.injEq, and_true, true_and, List.getElem?_cons_zero, List.getElem?_cons_succ, Option.some.injEq, List.append_nil, exists_and_left, cxOf_K, false_and, and_false, exists_false, false_or, or_false, exists_eq', exists_const, sg_eq, S_eq, S_toList, S_ne, tFor_eq, tLc_eq, iList_eq, iTup_eq, iRng1_eq, iStr_eq, decide_eq_true_eq, Bool.not_eq_true', decide_eq_false_iff_not, if_true, if_false, Bool.false_eq_true, reduceCtorEq, Bool.true_eq_false, decide_true, decide_false]
    refine k e _ _ ⟨hen, h4, hd1, fun h2 a ha => ?_⟩ hjt (s05.trans s6) (Dp.ext s6 (.tup (st_of f5) hd5))
    rw [decide_eq_true (by omega : 1 < e.length), Bool.true_and, Bool.not_eq_false', List.isEmpty_iff] at e6
    refine plain_lone ?_
    rw [← Bool.not_eq_true]
    intro z
    have := List.mem_filter.mpr ⟨ha, z⟩
    rw [e6] at this
    cases this
end
abbrev s_l_begun : Stmt := (top 15)
theorem sc_l_begun : FnScope ["_law_script", "_law_stirred", "_law_cell"] ["_law_script"] (defScope s_l_begun) := ⟨rfl, rfl, rfl, by decide +kernel, rfl, by decide +kernel, by decide +kernel⟩

def sp_begun (K : PySem.W.Frag) : Sp := fun vs H Q _ => ∃ (a : Addr) (ns : List Int), vs = [.ref a] ∧ SqL K H a (ns.map V.int) ∧ ns.length ≤ 63 ∧ ∀ b G H', Same H G → Bx b G H' → Q (.ref b) H'
section
variable {P : Program} {w : World} {K : PySem.W.Frag} {mg : Str → Option Value} {base : Heap}
theorem ok_begun {f : Addr} {fd : FuncData} (F : FunS K "_law_begun" s_l_begun f fd) (b_int : mg "int" = none) (b_len : mg "len" = none) (b_list : mg "list" = none) : FnOk P w K mg base CX0 1 f fd ["_law_script"] (sp_begun K) := by
  refine F.ok sc_l_begun (fun vs H Q E h => ?_) (fun cdv A outer s H vs Q E hr h => ?_)
  · obtain ⟨a, ns, rfl, _⟩ := h
    rfl
  obtain ⟨a, ns, rfl, hS, hn, k⟩ := h
  refine ⟨_, PSs.nox (pss_cons (ps_set (i := 1) sc_l_begun.nd rfl (.inl rfl) pe_int)
  (pss_cons (ps_for PassesOwn.never rfl (pi_list (pv 0)) (pg_name (i := 2) sc_l_begun.nd rfl (.inl rfl))
    (pss_one (ps_set (i := 1) sc_l_begun.nd rfl (.inl rfl) (pe_op op_mod (pe_op op_add (pe_op op_add (pe_op op_mul (pv 1) pe_int) (pe_op op_mul (pv 2) pe_int)) pe_int) pe_int))))
  (pss_one (ps_ret (pe_lst (pa_cons (pe_callTy call_list_of (by rfl) b_list (by decide +kernel) (pa_cons (pv 0) pa_nil)) (pa_cons (pe_op op_mul (pv 1) (pe_callTy call_int1 (by rfl) b_int (by decide +kernel) (pa_cons (pe_cmpR op_gt (pe_callB call_len_seq (by rfl) b_len PySem.boot_len (pa_cons (pv 0) pa_nil)) pe_int (nomark _)) pa_nil))) pa_nil))))))), ?_⟩
  simp only [tSeq, tAsg, tAnd, tOr, tNot, tTest, tB, tOp, tUn, tCB, tCons, tNil, tVar, tC, gName, rI0, rI, rU, rEq, rNe, rIxS, rIxL, rIxT, tRet, tRetN, tTup, tLst, tSl, tPart, tNoPart, rSlS, tIf, tIfS, tNext, tDrop, tCall, tBM, tBM0, tAndV, tOrV, tNotV, tM0, tM1, gSub, rSetL, sFld, gCons_eq, gNil_eq, tCallS_eq, tDGet, sDPut, tMeth, tMake, tFld, tChain, tIsN, tNotN,
  List.set_cons_zero, List.set_cons_succ, exists_eq_left', exists_eq_left, exists_eq, V.int.injEq, V.str.injEq, V.bl.injEq, V.ref.injEq, List.cons.injEq, and_true, true_and, List.getElem?_cons_zero, List.getElem?_cons_succ, Option.some.injEq, List.append_nil, exists_and_left, cxOf_K, false_and, and_false, exists_false, false_or, or_false, exists_eq', exists_const, sg_eq, S_eq, S_toList, S_ne, tFor_eq, tLc_eq, iList_eq, iTup_eq, iRng1_eq, iStr_eq, decide_eq_true_eq, Bool.not_eq_true', decide_eq_false_iff_not, if_true, if_false, Bool.false_eq_true, reduceCtorEq, Bool.true_eq_false, decide_true, decide_false, start1_3]
  refine ⟨⟨_, hS⟩, loop_list (ns.map V.int) (fun r σ H' => ∃ (i : Int) (z : Option V) (ms : List Int), r = ms.map V.int ∧ σ = [some (.ref a), some (.int i), z] ∧ H' = H ∧ 0 ≤ i ∧ i < 2147483647) ⟨0, none, ns, rfl, rfl, rfl, by decide, by decide⟩ ?_ ?_ ?_⟩
  · rintro r σ H' ⟨i, z, ms, rfl, rfl, rfl, h0, h1⟩
    exact hS
  · rintro x r σ H' ⟨i, z, ms, e, rfl, rfl, h0, h1⟩
    cases ms with
    | nil => cases e
    | cons m ms =>
      simp only [List.map_cons, List.cons.injEq] at e
      obtain ⟨rfl, rfl⟩ := e
      simp only [tSeq, tAsg, tAnd, tOr, tNot, tTest, tB, tOp, tUn, tCB, tCons, tNil, tVar, tC, gName, rI0, rI, rU, rEq, rNe, rIxS, rIxL, rIxT, tRet, tRetN, tTup, tLst, tSl, tPart, tNoPart, rSlS, tIf, tIfS, tNext, tDrop, tCall, tBM, tBM0, tAndV, tOrV, tNotV, tM0, tM1, gSub, rSetL, sFld, gCons_eq, gNil_eq, tCallS_eq, tDGet, sDPut, tMeth, tMake, tFld, tChain, tIsN, tNotN,
  List.set_cons_zero, List.set_cons_succ, exists_eq_left', exists_eq_left, exists_eq, V.int.injEq, V.str.injEq, V.bl.injEq, V.ref.injEq, List.cons.injEq, and_true, true_and, List.getElem?_cons_zero, List.getElem?_cons_succ, Option.some.injEq, List.append_nil, exists_and_left, cxOf_K, false_and, and_false, exists_false, false_or, or_false, exists_eq', exists_const, sg_eq, S_eq, S_toList, S_ne, tFor_eq, tLc_eq, iList_eq, iTup_eq, iRng1_eq, iStr_eq, decide_eq_true_eq, Bool.not_eq_true', decide_eq_false_iff_not, if_true, if_false, Bool.false_eq_true, reduceCtorEq, Bool.true_eq_false, decide_true, decide_false]
      refine ⟨.inl ⟨by omega, by omega⟩, .inr ⟨by decide, by decide⟩, by decide, ?_⟩
      exact ⟨_, _, ms, rfl, ⟨rfl, rfl⟩, Int.emod_nonneg _ (by decide), Int.emod_lt_of_pos _ (by decide)⟩
  · rintro σ H' ⟨i, z, ms, e, rfl, rfl, h0, h1⟩
    simp only [tSeq, tAsg, tAnd, tOr, tNot, tTest, tB, tOp, tUn, tCB, tCons, tNil, tVar, tC, gName, rI0, rI, rU, rEq, rNe, rIxS, rIxL, rIxT, tRet, tRetN, tTup, tLst, tSl, tPart, tNoPart, rSlS, tIf, tIfS, tNext, tDrop, tCall, tBM, tBM0, tAndV, tOrV, tNotV, tM0, tM1, gSub, rSetL, sFld, gCons_eq, gNil_eq, tCallS_eq, tDGet, sDPut, tMeth, tMake, tFld, tChain, tIsN, tNotN,
  List.set_cons_zero, List.set_cons_succ, exists_eq_left', exists_eq_left, exists_eq, V.int.injEq, V.str.injEq, V.bl.injEq, V.ref.injEq, List.cons.injEq, and_true, true_and, List.getElem?_cons_zero, List.getElem?_cons_succ, Option.some.injEq, List.append_nil, exists_and_left, cxOf_K, false_and, and_false, exists_false, false_or, or_false, exists_eq', exists_const, sg_eq, S_eq, S_toList, S_ne, tFor_eq, tLc_eq, iList_eq, iTup_eq, iRng1_eq, iStr_eq, decide_eq_true_eq, Bool.not_eq_true', decide_eq_false_iff_not, if_true, if_false, Bool.false_eq_true, reduceCtorEq, Bool.true_eq_false, decide_true, decide_false]
    refine ⟨_, .inl hS, ?_⟩
    (intro l nl; generalize hql : upd H' l _ = H1; obtain ⟨e1, f1⟩ := al_ nl hql; clear hql)
    refine ⟨_, .inl (same_l e1 hS), ?_⟩
    refine ⟨.inl ⟨by omega, by omega⟩, (size_le (by simp only [List.length_cons, List.length_nil]; decide)), ?_⟩
    (intro b nb; generalize hqb : upd H1 b _ = H2; obtain ⟨e2, f2⟩ := al_ nb hqb; clear hqb)
    have nlb : l ≠ b := ne_of_none f1 nb
    refine k b H' H2 (Same.refl _) ⟨e1.trans e2, e1.free nb, l, ns, _, nl, f2, e2 _ _ f1, ?_, ?_⟩
    · split <;> omega
    · split <;> omega
end
/-! ### the law's text: an entry's, spoilt or not -/
theorem eT_ok {e : List Act} (h : ∀ a ∈ e, actOk a) (h4 : e.length ≤ 4) : asc (eText e) ∧ (eText e).length ≤ 84 := by
  have h1 := jT_len (e.map aText) (m := 20) (fun t ht => by
    obtain ⟨a, hm, rfl⟩ := List.mem_map.mp ht
    exact (aText_ok (h a hm)).1)
  rw [List.length_map] at h1
  refine ⟨jT_asc _ fun t ht => ?_, ?_⟩
  · obtain ⟨a, hm, rfl⟩ := List.mem_map.mp ht
    exact (aText_ok (h a hm)).2.1
  · show (jT (e.map aText)).length ≤ 84
    omega
def sp_spoilt : Sp := fun vs H Q _ => ∃ (b : Addr) (G : Hp) (t : Tx), vs = [.ref b, .str (S t)] ∧ Bx b G H ∧ asc t ∧ t.length ≤ 500 ∧ ∀ (t2 : Tx) H', asc t2 → t2.length ≤ t.length + 3 → Bx b G H' → Q (.str (S t2)) H'
abbrev s_l_spoilt : Stmt := (top 24)
theorem sc_l_spoilt : FnScope ["_law_box", "_law_text", "_law_j", "_law_at", "_law_sign", "_law_cut"] ["_law_box", "_law_text"] (defScope s_l_spoilt) := ⟨rfl, rfl, rfl, by decide +kernel, rfl, by decide +kernel, by decide +kernel⟩

section
variable {P : Program} {w : World} {K : PySem.W.Frag} {mg : Str → Option Value} {base : Heap}
theorem ok_spoilt {f : Addr} {fd : FuncData} (F : FunS K "_law_spoilt" s_l_spoilt f fd) (b_len : mg "len" = none) (b_range : mg "range" = none) (c_l_take : Cal P w K mg base CX0 1 "_law_take" sp_take) : FnOk P w K mg base CX0 2 f fd ["_law_box", "_law_text"] sp_spoilt := by
  refine F.ok sc_l_spoilt (fun vs H Q E h => ?_) (fun cdv A outer s H vs Q E hr h => ?_)
  · obtain ⟨b, G, t, rfl, _⟩ := h
    rfl
  obtain ⟨b, G, t, rfl, B, ta, tl, k⟩ := h
  refine ⟨_, PSs.nox (pss_cons (ps_for PassesOwn.never rfl (pi_range1 (by rfl) b_range (pa_cons (pe_op op_add pe_int (pe_c c_l_take hr (by first | decide | omega) (by rfl) (pa_cons (pv 0) (pa_cons pe_int pa_nil)))) pa_nil)) (pg_name (i := 2) sc_l_spoilt.nd rfl (.inl rfl))
    (pss_cons (ps_set (i := 3) sc_l_spoilt.nd rfl (.inl rfl) (pe_c c_l_take hr (by first | decide | omega) (by rfl) (pa_cons (pv 0) (pa_cons (pe_op op_add (pe_callB call_len_str (by rfl) b_len PySem.boot_len (pa_cons (pv 1) pa_nil)) pe_int) pa_nil))))
  (pss_cons (ps_set (i := 4) sc_l_spoilt.nd rfl (.inl rfl) (pe_ix ix_str pe_str (pe_c c_l_take hr (by first | decide | omega) (by rfl) (pa_cons (pv 0) (pa_cons pe_int pa_nil))) (fun _ _ => rfl)))
  (pss_cons (ps_set (i := 5) sc_l_spoilt.nd rfl (.inl rfl) (pe_c c_l_take hr (by first | decide | omega) (by rfl) (pa_cons (pv 0) (pa_cons pe_int pa_nil))))
  (pss_one (ps_set (i := 1) sc_l_spoilt.nd rfl (.inl rfl) (pe_op op_add_str (pe_op op_add_str (pe_slice sl_str (pv 1) po_none (po_some (pv 3))) (pe_ix ix_list (pe_lst (pa_cons pe_str (pa_cons (pv 4) (pa_cons (pv 4) pa_nil)))) (pv 5) (fun _ _ => rfl))) (pe_slice sl_str (pv 1) (po_some (pe_op op_add (pv 3) (pe_ix ix_list (pe_lst (pa_cons pe_int (pa_cons pe_int (pa_cons pe_int pa_nil)))) (pv 5) (fun _ _ => rfl)))) po_none))))))))
  (pss_one (ps_ret (pv 1)))), ?_⟩
  simp only [tSeq, tAsg, tAnd, tOr, tNot, tTest, tB, tOp, tUn, tCB, tCons, tNil, tVar, tC, gName, rI0, rI, rU, rEq, rNe, rIxS, rIxL, rIxT, tRet, tRetN, tTup, tLst, tSl, tPart, tNoPart, rSlS, tIf, tIfS, tNext, tDrop, tCall, tBM, tBM0, tAndV, tOrV, tNotV, tM0, tM1, gSub, rSetL, sFld, gCons_eq, gNil_eq, tCallS_eq, tDGet, sDPut, tMeth, tMake, tFld, tChain, tIsN, tNotN,
  List.set_cons_zero, List.set_cons_succ, exists_eq_left', exists_eq_left, exists_eq, V.int.injEq, V.str.injEq, V.bl.injEq, V.ref.injEq, List.cons.injEq, and_true, true_and, List.getElem?_cons_zero, List.getElem?_cons_succ, Option.some.injEq, List.append_nil, exists_and_left, cxOf_K, false_and, and_false, exists_false, false_or, or_false, exists_eq', exists_const, sg_eq, S_eq, S_toList, S_ne, tFor_eq, tLc_eq, iList_eq, iTup_eq, iRng1_eq, iStr_eq, decide_eq_true_eq, Bool.not_eq_true', decide_eq_false_iff_not, if_true, if_false, Bool.false_eq_true, reduceCtorEq, Bool.true_eq_false, decide_true, decide_false, lit_97_122_48_39_45_94_38_123_125_124_60_42_46_63_44_59_32_65_98, lit_, start2_6]
  refine take_ B (by decide) (by decide) fun r H1 hr1 B1 => ?_
  simp only [tSeq, tAsg, tAnd, tOr, tNot, tTest, tB, tOp, tUn, tCB, tCons, tNil, tVar, tC, gName, rI0, rI, rU, rEq, rNe, rIxS, rIxL, rIxT, tRet, tRetN, tTup, tLst, tSl, tPart, tNoPart, rSlS, tIf, tIfS, tNext, tDrop, tCall, tBM, tBM0, tAndV, tOrV, tNotV, tM0, tM1, gSub, rSetL, sFld, gCons_eq, gNil_eq, tCallS_eq, tDGet, sDPut, tMeth, tMake, tFld, tChain, tIsN, tNotN,
  List.set_cons_zero, List.set_cons_succ, exists_eq_left', exists_eq_left, exists_eq, V.int.injEq, V.str.injEq, V.bl.injEq, V.ref.injEq, List.cons.injEq, and_true, true_and, List.getElem?_cons_zero, List.getElem?_cons_succ, Option.some.injEq, List.append_nil, exists_and_left, cxOf_K, false_and, and_false, exists_false, false_or, or_false, exists_eq', exists_const, sg_eq, S_eq, S_toList, S_ne, tFor_eq, tLc_eq, iList_eq, iTup_eq, iRng1_eq, iStr_eq, decide_eq_true_eq, Bool.not_eq_true', decide_eq_false_iff_not, if_true, if_false, Bool.false_eq_true, reduceCtorEq, Bool.true_eq_false, decide_true, decide_false]
  refine ⟨by omega, by omega, ?_⟩
  rw [show ((1 : Int) + (r : Int)).toNat = 1 + r by omega]
  refine loop_range (n := 1 + r) (fun i σ H' => ∃ (t2 : Tx) (y2 y3 y4 y5 : Option V), σ = [some (.ref b), some (.str (S t2)), y2, y3, y4, y5] ∧ asc t2 ∧ t2.length ≤ t.length + i ∧ Bx b G H') ⟨t, _, _, _, _, rfl, ta, Nat.le_refl _, B1⟩ ?_ ?_
  · rintro i σ H2 hi ⟨t2, y2, y3, y4, y5, rfl, ta2, tl2, B2⟩
    have sl : (S t2).length = t2.length := S_len t2
    simp only [tSeq, tAsg, tAnd, tOr, tNot, tTest, tB, tOp, tUn, tCB, tCons, tNil, tVar, tC, gName, rI0, rI, rU, rEq, rNe, rIxS, rIxL, rIxT, tRet, tRetN, tTup, tLst, tSl, tPart, tNoPart, rSlS, tIf, tIfS, tNext, tDrop, tCall, tBM, tBM0, tAndV, tOrV, tNotV, tM0, tM1, gSub, rSetL, sFld, gCons_eq, gNil_eq, tCallS_eq, tDGet, sDPut, tMeth, tMake, tFld, tChain, tIsN, tNotN,
  List.set_cons_zero, List.set_cons_succ, exists_eq_left', exists_eq_left, exists_eq, V.int.injEq, V.str.injEq, V.bl.injEq, V.ref.injEq, List.cons.injEq, and_true, true_and, List.getElem?_cons_zero, List.getElem?_cons_succ, Option.some.injEq, List.append_nil, exists_and_left, cxOf_K, false_and, and_false, exists_false, false_or, or_false, exists_eq', exists_const, sg_eq, S_eq, S_toList, S_ne, tFor_eq, tLc_eq, iList_eq, iTup_eq, iRng1_eq, iStr_eq, decide_eq_true_eq, Bool.not_eq_true', decide_eq_false_iff_not, if_true, if_false, Bool.false_eq_true, reduceCtorEq, Bool.true_eq_false, decide_true, decide_false]
    refine ⟨size_le (by omega), take_ B2 (by omega) (by omega) fun at_ H3 hat B3 => ?_⟩
    simp only [tSeq, tAsg, tAnd, tOr, tNot, tTest, tB, tOp, tUn, tCB, tCons, tNil, tVar, tC, gName, rI0, rI, rU, rEq, rNe, rIxS, rIxL, rIxT, tRet, tRetN, tTup, tLst, tSl, tPart, tNoPart, rSlS, tIf, tIfS, tNext, tDrop, tCall, tBM, tBM0, tAndV, tOrV, tNotV, tM0, tM1, gSub, rSetL, sFld, gCons_eq, gNil_eq, tCallS_eq, tDGet, sDPut, tMeth, tMake, tFld, tChain, tIsN, tNotN,
  List.set_cons_zero, List.set_cons_succ, exists_eq_left', exists_eq_left, exists_eq, V.int.injEq, V.str.injEq, V.bl.injEq, V.ref.injEq, List.cons.injEq, and_true, true_and, List.getElem?_cons_zero, List.getElem?_cons_succ, Option.some.injEq, List.append_nil, exists_and_left, cxOf_K, false_and, and_false, exists_false, false_or, or_false, exists_eq', exists_const, sg_eq, S_eq, S_toList, S_ne, tFor_eq, tLc_eq, iList_eq, iTup_eq, iRng1_eq, iStr_eq, decide_eq_true_eq, Bool.not_eq_true', decide_eq_false_iff_not, if_true, if_false, Bool.false_eq_true, reduceCtorEq, Bool.true_eq_false, decide_true, decide_false]
    refine take_ B3 (by decide) (by decide) fun r4 H4 hr4 B4 => ?_
    simp only [tSeq, tAsg, tAnd, tOr, tNot, tTest, tB, tOp, tUn, tCB, tCons, tNil, tVar, tC, gName, rI0, rI, rU, rEq, rNe, rIxS, rIxL, rIxT, tRet, tRetN, tTup, tLst, tSl, tPart, tNoPart, rSlS, tIf, tIfS, tNext, tDrop, tCall, tBM, tBM0, tAndV, tOrV, tNotV, tM0, tM1, gSub, rSetL, sFld, gCons_eq, gNil_eq, tCallS_eq, tDGet, sDPut, tMeth, tMake, tFld, tChain, tIsN, tNotN,
  List.set_cons_zero, List.set_cons_succ, exists_eq_left', exists_eq_left, exists_eq, V.int.injEq, V.str.injEq, V.bl.injEq, V.ref.injEq, List.cons.injEq, and_true, true_and, List.getElem?_cons_zero, List.getElem?_cons_succ, Option.some.injEq, List.append_nil, exists_and_left, cxOf_K, false_and, and_false, exists_false, false_or, or_false, exists_eq', exists_const, sg_eq, S_eq, S_toList, S_ne, tFor_eq, tLc_eq, iList_eq, iTup_eq, iRng1_eq, iStr_eq, decide_eq_true_eq, Bool.not_eq_true', decide_eq_false_iff_not, if_true, if_false, Bool.false_eq_true, reduceCtorEq, Bool.true_eq_false, decide_true, decide_false]
    have h19 : r4 < [97, 122, 48, 39, 45, 94, 38, 123, 125, 124, 60, 42, 46, 63, 44, 59, 32, 65, 98].length := by
      show r4 < 19
      omega
    refine ⟨(size_le (by (try simp only [S_len, List.length_append, List.length_cons, List.length_nil]); omega)), _, atI_nat (List.getElem?_eq_getElem h19), ?_⟩
    have hca : [97, 122, 48, 39, 45, 94, 38, 123, 125, 124, 60, 42, 46, 63, 44, 59, 32, 65, 98][r4] < 128 := of_decide_eq_true (List.all_eq_true.mp (show [97, 122, 48, 39, 45, 94, 38, 123, 125, 124, 60, 42, 46, 63, 44, 59, 32, 65, 98].all (fun c => decide (c < 128)) = true from rfl) _ (List.getElem_mem h19))
    generalize [97, 122, 48, 39, 45, 94, 38, 123, 125, 124, 60, 42, 46, 63, 44, 59, 32, 65, 98][r4] = c at hca
    refine take_ B4 (by decide) (by decide) fun r5 H5 hr5 B5 => ?_
    simp only [tSeq, tAsg, tAnd, tOr, tNot, tTest, tB, tOp, tUn, tCB, tCons, tNil, tVar, tC, gName, rI0, rI, rU, rEq, rNe, rIxS, rIxL, rIxT, tRet, tRetN, tTup, tLst, tSl, tPart, tNoPart, rSlS, tIf, tIfS, tNext, tDrop, tCall, tBM, tBM0, tAndV, tOrV, tNotV, tM0, tM1, gSub, rSetL, sFld, gCons_eq, gNil_eq, tCallS_eq, tDGet, sDPut, tMeth, tMake, tFld, tChain, tIsN, tNotN,
  List.set_cons_zero, List.set_cons_succ, exists_eq_left', exists_eq_left, exists_eq, V.int.injEq, V.str.injEq, V.bl.injEq, V.ref.injEq, List.cons.injEq, and_true, true_and, List.getElem?_cons_zero, List.getElem?_cons_succ, Option.some.injEq, List.append_nil, exists_and_left, cxOf_K, false_and, and_false, exists_false, false_or, or_false, exists_eq', exists_const, sg_eq, S_eq, S_toList, S_ne, tFor_eq, tLc_eq, iList_eq, iTup_eq, iRng1_eq, iStr_eq, decide_eq_true_eq, Bool.not_eq_true', decide_eq_false_iff_not, if_true, if_false, Bool.false_eq_true, reduceCtorEq, Bool.true_eq_false, decide_true, decide_false]
    have c1 : cutS (S t2) none (some (at_ : Int)) = S (t2.take at_) := by
      rw [cutS_S]
      exact congrArg S (cutL_to _ _)
    rw [c1]
    refine ⟨size_le (by omega), (size_le (by simp only [List.length_cons, List.length_nil]; decide)), ?_⟩
    (intro p5 np5; generalize hqp5 : upd _ p5 _ = H6; obtain ⟨G6, gp5, e6, B6, f6⟩ := alB_ B5 np5 hqp5; clear hqp5 np5)
    obtain ⟨m, j, hm, hj, hma, hml⟩ : ∃ (m : Tx) (j : Nat), atI [V.str (S []), V.str (S [c]), V.str (S [c])] (r5 : Int) = some (.str (S m)) ∧ atI [V.int 1, V.int 0, V.int 1] (r5 : Int) = some (.int j) ∧ asc m ∧ m.length ≤ 1 := by
      match r5, hr5 with
      | 0, _ => exact ⟨[], 1, rfl, rfl, asc_of rfl, by decide⟩
      | 1, _ => exact ⟨[c], 0, rfl, rfl, fun x hx => by rw [List.mem_singleton.mp hx]; exact hca, by simp⟩
      | 2, _ => exact ⟨[c], 1, rfl, rfl, fun x hx => by rw [List.mem_singleton.mp hx]; exact hca, by simp⟩
      | n + 3, h => exact absurd h (by omega)
    refine ⟨_, sq_of (B6.ex _ _ f6), _, hm, _, rfl, size_le (by rw [S_len, S_len, List.length_take]; omega), ?_⟩
    rw [S_cat]
    refine ⟨(size_le (by simp only [List.length_cons, List.length_nil]; decide)), ?_⟩
    (intro p6 np6; generalize hqp6 : upd _ p6 _ = H7; obtain ⟨G7, gp6, e7, B7, f7⟩ := alB_ B6 np6 hqp6; clear hqp6 np6)
    refine ⟨_, sq_of (B7.ex _ _ f7), _, hj, _, rfl, ?_⟩
    have c2 : cutS (S t2) (some ((at_ : Int) + (j : Int))) none = S (t2.drop (at_ + j)) := by
      rw [cutS_S, ← Int.natCast_add]
      exact congrArg S (cutL_from _ _)
    rw [c2]
    refine ⟨size_le (by omega), size_le (by rw [S_len, S_len, List.length_append, List.length_take, List.length_drop]; omega), ?_⟩
    rw [S_cat]
    refine ⟨_, _, _, _, _, ⟨rfl, rfl, rfl, rfl, rfl⟩, asc_app (asc_app (asc_take _ ta2) hma) (asc_drop _ ta2), ?_, B7.weak (e6.trans e7)⟩
    rw [List.length_append, List.length_append, List.length_take, List.length_drop]
    omega
  · rintro σ H2 ⟨t2, y2, y3, y4, y5, rfl, ta2, tl2, B2⟩
    simp only [tSeq, tAsg, tAnd, tOr, tNot, tTest, tB, tOp, tUn, tCB, tCons, tNil, tVar, tC, gName, rI0, rI, rU, rEq, rNe, rIxS, rIxL, rIxT, tRet, tRetN, tTup, tLst, tSl, tPart, tNoPart, rSlS, tIf, tIfS, tNext, tDrop, tCall, tBM, tBM0, tAndV, tOrV, tNotV, tM0, tM1, gSub, rSetL, sFld, gCons_eq, gNil_eq, tCallS_eq, tDGet, sDPut, tMeth, tMake, tFld, tChain, tIsN, tNotN,
  List.set_cons_zero, List.set_cons_succ, exists_eq_left', exists_eq_left, exists_eq, V.int.injEq, V.str.injEq, V.bl.injEq, V.ref.injEq, List.cons.injEq, and_true, true_and, List.getElem?_cons_zero, List.getElem?_cons_succ, Option.some.injEq, List.append_nil, exists_and_left, cxOf_K, false_and, and_false, exists_false, false_or, or_false, exists_eq', exists_const, sg_eq, S_eq, S_toList, S_ne, tFor_eq, tLc_eq, iList_eq, iTup_eq, iRng1_eq, iStr_eq, decide_eq_true_eq, Bool.not_eq_true', decide_eq_false_iff_not, if_true, if_false, Bool.false_eq_true, reduceCtorEq, Bool.true_eq_false, decide_true, decide_false]
    exact k t2 H2 ta2 (by omega) B2
theorem spoilt_ {b : Addr} {G H : Hp} {t : Tx} {Q : VK} {E : XK} (B : Bx b G H) (ta : asc t) (tl : t.length ≤ 500) (k : ∀ (t2 : Tx) H', asc t2 → t2.length ≤ t.length + 3 → Bx b G H' → Q (.str (S t2)) H') : sp_spoilt [.ref b, .str (S t)] H Q E := ⟨b, G, t, rfl, B, ta, tl, k⟩
def sp_text_of : Sp := fun vs H Q _ => ∃ (b : Addr) (G : Hp), vs = [.ref b] ∧ Bx b G H ∧ ∀ (t : Tx) H', asc t → t.length ≤ 300 → Bx b G H' → Q (.str (S t)) H'
abbrev s_l_text_of : Stmt := (top 25)
theorem sc_l_text_of : FnScope ["_law_box", "_law_kind", "_law_entry_here", "_law_text", "_law_k"] ["_law_box"] (defScope s_l_text_of) := ⟨rfl, rfl, rfl, by decide +kernel, rfl, by decide +kernel, by decide +kernel⟩

theorem ok_text_of {f : Addr} {fd : FuncData} (F : FunS K "_law_text_of" s_l_text_of f fd) (b_range : mg "range" = none) (c_l_take : Cal P w K mg base CX0 1 "_law_take" sp_take) (c_l_entry : Cal P w K mg base CX0 5 "_law_entry" (sp_entry K)) (c_l_entry_text : Cal P w K mg base CX0 2 "_law_entry_text" (sp_etext K)) (c_l_spoilt : Cal P w K mg base CX0 2 "_law_spoilt" sp_spoilt) : FnOk P w K mg base CX0 6 f fd ["_law_box"] sp_text_of := by
  refine F.ok sc_l_text_of (fun vs H Q E h => ?_) (fun cdv A outer s H vs Q E hr h => ?_)
  · obtain ⟨b, G, rfl, _⟩ := h
    rfl
  obtain ⟨b, G, rfl, B, k⟩ := h
  refine ⟨_, PSs.nox (pss_cons (ps_set (i := 1) sc_l_text_of.nd rfl (.inl rfl) (pe_c c_l_take hr (by first | decide | omega) (by rfl) (pa_cons (pv 0) (pa_cons pe_int pa_nil))))
  (pss_cons (ps_if (pt_cmpR op_eq (pv 1) pe_int (nomark _))
    (pss_one (ps_ret (pe_join pe_str (pe_lc (own := [("_law_k", 4)]) rfl sc_l_text_of.nd (pi_range1 (by rfl) b_range (pa_cons (pe_c c_l_take hr (by first | decide | omega) (by rfl) (pa_cons (pv 0) (pa_cons pe_int pa_nil))) pa_nil)) (blkOk_by (N := ["_law_box", "_law_kind", "_law_entry_here", "_law_text", "_law_k"]) (sc := defScope s_l_text_of) (own := [("_law_k", 4)]) (by decide +kernel)) (fun _ _ _ _ _ => (pg_name (i := 4) sc_l_text_of.nd rfl (.inl rfl))) (fun _ _ _ _ _ => pts_nil) (fun _ _ _ _ _ => (pe_ix ix_str pe_str (pe_c c_l_take hr (by first | decide | omega) (by rfl) (pa_cons (pv 0) (pa_cons pe_int pa_nil))) (fun _ _ => rfl)))))))
    pss_nil)
  (pss_cons (ps_set (i := 2) sc_l_text_of.nd rfl (.inl rfl) (pe_c c_l_entry hr (by first | decide | omega) (by rfl) (pa_cons (pv 0) pa_nil)))
  (pss_cons (ps_if (pt_cmpR op_eq (pe_c c_l_take hr (by first | decide | omega) (by rfl) (pa_cons (pv 0) (pa_cons pe_int pa_nil))) pe_int (nomark _))
    (pss_one (ps_set (i := 2) sc_l_text_of.nd rfl (.inl rfl) (pe_tup (pa_cons (pe_ix ix_list (pe_lst (pa_cons (pe_tup (pa_cons pe_str pa_nil)) (pa_cons (pe_tup (pa_cons pe_str pa_nil)) pa_nil))) (pe_c c_l_take hr (by first | decide | omega) (by rfl) (pa_cons (pv 0) (pa_cons pe_int pa_nil))) (fun _ _ => rfl)) pa_nil))))
    pss_nil)
  (pss_cons (ps_set (i := 3) sc_l_text_of.nd rfl (.inl rfl) (pe_c c_l_entry_text hr (by first | decide | omega) (by rfl) (pa_cons (pv 2) pa_nil)))
  (pss_cons (ps_if (pt_cmpR op_eq (pv 1) pe_int (nomark _))
    (pss_one (ps_ret (pe_op op_add_str (pe_op op_add_str (pv 3) pe_str) (pe_c c_l_entry_text hr (by first | decide | omega) (by rfl) (pa_cons (pe_c c_l_entry hr (by first | decide | omega) (by rfl) (pa_cons (pv 0) pa_nil)) pa_nil)))))
    pss_nil)
  (pss_cons (ps_if (pt_cmpR op_eq (pe_c c_l_take hr (by first | decide | omega) (by rfl) (pa_cons (pv 0) (pa_cons pe_int pa_nil))) pe_int (nomark _))
    (pss_one (ps_ret (pv 3)))
    pss_nil)
  (pss_one (ps_ret (pe_c c_l_spoilt hr (by first | decide | omega) (by rfl) (pa_cons (pv 0) (pa_cons (pv 3) pa_nil)))))))))))), ?_⟩
  simp only [tSeq, tAsg, tAnd, tOr, tNot, tTest, tB, tOp, tUn, tCB, tCons, tNil, tVar, tC, gName, rI0, rI, rU, rEq, rNe, rIxS, rIxL, rIxT, tRet, tRetN, tTup, tLst, tSl, tPart, tNoPart, rSlS, tIf, tNext, tDrop, tCall, tBM, tBM0, tAndV, tOrV, tNotV, tM0, tM1, gSub, rSetL, sFld, gCons_eq, gNil_eq, tCallS_eq, tDGet, sDPut, tMeth, tMake, tFld, tChain, tIsN, tNotN,
  List.set_cons_zero, List.set_cons_succ, exists_eq_left', exists_eq_left, exists_eq, V.int.injEq, V.str.injEq, V.bl.injEq, V.ref.injEq, List.cons.injEq, and_true, true_and, List.getElem?_cons_zero, List.getElem?_cons_succ, Option.some.injEq, List.append_nil, exists_and_left, cxOf_K, false_and, and_false, exists_false, false_or, or_false, exists_eq', exists_const, sg_eq, S_eq, S_toList, S_ne, tFor_eq, tLc_eq, iList_eq, iTup_eq, iRng1_eq, iStr_eq, decide_eq_true_eq, Bool.not_eq_true', decide_eq_false_iff_not, if_true, if_false, Bool.false_eq_true, reduceCtorEq, Bool.true_eq_false, decide_true, decide_false, lit_, lit_32, lit_97_94_38_123_125_45_124_60_42_46_98_32_97_99_107_39, lit_98_97_99_107, lit_97_103_97_105_110, start1_5]
  refine take_ B (by decide) (by decide) fun kd H1 hkd B1 => ?_
  try simp only [tSeq, tAsg, tAnd, tOr, tNot, tTest, tB, tOp, tUn, tCB, tCons, tNil, tVar, tC, gName, rI0, rI, rU, rEq, rNe, rIxS, rIxL, rIxT, tRet, tRetN, tTup, tLst, tSl, tPart, tNoPart, rSlS, tIf, tNext, tDrop, tCall, tBM, tBM0, tAndV, tOrV, tNotV, tM0, tM1, gSub, rSetL, sFld, gCons_eq, gNil_eq, tCallS_eq, tDGet, sDPut, tMeth, tMake, tFld, tChain, tIsN, tNotN,
  List.set_cons_zero, List.set_cons_succ, exists_eq_left', exists_eq_left, exists_eq, V.int.injEq, V.str.injEq, V.bl.injEq, V.ref.injEq, List.cons.injEq, and_true, true_and, List.getElem?_cons_zero, List.getElem?_cons_succ, Option.some.injEq, List.append_nil, exists_and_left, cxOf_K, false_and, and_false, exists_false, false_or, or_false, exists_eq', exists_const, sg_eq, S_eq, S_toList, S_ne, tFor_eq, tLc_eq, iList_eq, iTup_eq, iRng1_eq, iStr_eq, decide_eq_true_eq, Bool.not_eq_true', decide_eq_false_iff_not, if_true, if_false, Bool.false_eq_true, reduceCtorEq, Bool.true_eq_false, decide_true, decide_false]
  refine if_pure (decide (kd = 1)) (fun R rr => ?_) (fun _ => ?_) (fun _ => ?_)
  · simp only [tSeq, tAsg, tAnd, tOr, tNot, tTest, tB, tOp, tUn, tCB, tCons, tNil, tVar, tC, gName, rI0, rI, rU, rEq, rNe, rIxS, rIxL, rIxT, tRet, tRetN, tTup, tLst, tSl, tPart, tNoPart, rSlS, tIf, tIfS, tNext, tDrop, tCall, tBM, tBM0, tAndV, tOrV, tNotV, tM0, tM1, gSub, rSetL, sFld, gCons_eq, gNil_eq, tCallS_eq, tDGet, sDPut, tMeth, tMake, tFld, tChain, tIsN, tNotN,
  List.set_cons_zero, List.set_cons_succ, exists_eq_left', exists_eq_left, exists_eq, V.int.injEq, V.str.injEq, V.bl.injEq, V.ref.injEq, List.cons.injEq, and_true, true_and, List.getElem?_cons_zero, List.getElem?_cons_succ, Option.some.injEq, List.append_nil, exists_and_left, cxOf_K, false_and, and_false, exists_false, false_or, or_false, exists_eq', exists_const, sg_eq, S_eq, S_toList, S_ne, tFor_eq, tLc_eq, iList_eq, iTup_eq, iRng1_eq, iStr_eq, decide_eq_true_eq, Bool.not_eq_true', decide_eq_false_iff_not, if_true, if_false, Bool.false_eq_true, reduceCtorEq, Bool.true_eq_false, decide_true, decide_false]
    have e9 : decide ((kd : Int) = 1) = decide (kd = 1) := by
      rw [Bool.eq_iff_iff]
      simp
      omega
    rw [e9]
    exact ⟨rfl, rr⟩
  · simp only [tSeq, tAsg, tAnd, tOr, tNot, tTest, tB, tOp, tUn, tCB, tCons, tNil, tVar, tC, gName, rI0, rI, rU, rEq, rNe, rIxS, rIxL, rIxT, tRet, tRetN, tTup, tLst, tSl, tPart, tNoPart, rSlS, tIf, tNext, tDrop, tCall, tBM, tBM0, tAndV, tOrV, tNotV, tM0, tM1, gSub, rSetL, sFld, gCons_eq, gNil_eq, tCallS_eq, tDGet, sDPut, tMeth, tMake, tFld, tChain, tIsN, tNotN,
  List.set_cons_zero, List.set_cons_succ, exists_eq_left', exists_eq_left, exists_eq, V.int.injEq, V.str.injEq, V.bl.injEq, V.ref.injEq, List.cons.injEq, and_true, true_and, List.getElem?_cons_zero, List.getElem?_cons_succ, Option.some.injEq, List.append_nil, exists_and_left, cxOf_K, false_and, and_false, exists_false, false_or, or_false, exists_eq', exists_const, sg_eq, S_eq, S_toList, S_ne, tFor_eq, tLc_eq, iList_eq, iTup_eq, iRng1_eq, iStr_eq, decide_eq_true_eq, Bool.not_eq_true', decide_eq_false_iff_not, if_true, if_false, Bool.false_eq_true, reduceCtorEq, Bool.true_eq_false, decide_true, decide_false]
    refine take_ B1 (by decide) (by decide) fun r6 H6 hr6 B6 => ?_
    refine ⟨_, rfl, by omega, by omega, fun L hL => ?_⟩
    rw [Int.toNat_natCast]
    refine signs_draw (fun c => c < 128) (by omega) B6 hL (fun _ => rfl) (fun i G' H' Q' _ _ B q => ?_) ?_
    · simp only [wipe, List.map_cons, List.map_nil, List.set_cons_succ, List.set_cons_zero, tSeq, tAsg, tAnd, tOr, tNot, tTest, tB, tOp, tUn, tCB, tCons, tNil, tVar, tC, gName, rI0, rI, rU, rEq, rNe, rIxS, rIxL, rIxT, tRet, tRetN, tTup, tLst, tSl, tPart, tNoPart, rSlS, tIf, tIfS, tNext, tDrop, tCall, tBM, tBM0, tAndV, tOrV, tNotV, tM0, tM1, gSub, rSetL, sFld, gCons_eq, gNil_eq, tCallS_eq, tDGet, sDPut, tMeth, tMake, tFld, tChain, tIsN, tNotN,
  List.set_cons_zero, List.set_cons_succ, exists_eq_left', exists_eq_left, exists_eq, V.int.injEq, V.str.injEq, V.bl.injEq, V.ref.injEq, List.cons.injEq, and_true, true_and, List.getElem?_cons_zero, List.getElem?_cons_succ, Option.some.injEq, List.append_nil, exists_and_left, cxOf_K, false_and, and_false, exists_false, false_or, or_false, exists_eq', exists_const, sg_eq, S_eq, S_toList, S_ne, tFor_eq, tLc_eq, iList_eq, iTup_eq, iRng1_eq, iStr_eq, decide_eq_true_eq, Bool.not_eq_true', decide_eq_false_iff_not, if_true, if_false, Bool.false_eq_true, reduceCtorEq, Bool.true_eq_false, decide_true, decide_false]
      refine take_ B (by decide) (by decide) fun r H4 hr B4 => ?_
      simp only [tSeq, tAsg, tAnd, tOr, tNot, tTest, tB, tOp, tUn, tCB, tCons, tNil, tVar, tC, gName, rI0, rI, rU, rEq, rNe, rIxS, rIxL, rIxT, tRet, tRetN, tTup, tLst, tSl, tPart, tNoPart, rSlS, tIf, tIfS, tNext, tDrop, tCall, tBM, tBM0, tAndV, tOrV, tNotV, tM0, tM1, gSub, rSetL, sFld, gCons_eq, gNil_eq, tCallS_eq, tDGet, sDPut, tMeth, tMake, tFld, tChain, tIsN, tNotN,
  List.set_cons_zero, List.set_cons_succ, exists_eq_left', exists_eq_left, exists_eq, V.int.injEq, V.str.injEq, V.bl.injEq, V.ref.injEq, List.cons.injEq, and_true, true_and, List.getElem?_cons_zero, List.getElem?_cons_succ, Option.some.injEq, List.append_nil, exists_and_left, cxOf_K, false_and, and_false, exists_false, false_or, or_false, exists_eq', exists_const, sg_eq, S_eq, S_toList, S_ne, tFor_eq, tLc_eq, iList_eq, iTup_eq, iRng1_eq, iStr_eq, decide_eq_true_eq, Bool.not_eq_true', decide_eq_false_iff_not, if_true, if_false, Bool.false_eq_true, reduceCtorEq, Bool.true_eq_false, decide_true, decide_false]
      have h16 : r < [97, 94, 38, 123, 125, 45, 124, 60, 42, 46, 98, 32, 97, 99, 107, 39].length := by
        show r < 16
        omega
      refine ⟨(size_le (by (try simp only [S_len, List.length_append, List.length_cons, List.length_nil]); omega)), _, atI_nat (List.getElem?_eq_getElem h16), q _ _ _ (Same.refl _) B4 ?_⟩
      exact List.all_eq_true.mp (show [97, 94, 38, 123, 125, 45, 124, 60, 42, 46, 98, 32, 97, 99, 107, 39].all (fun c => decide (c < 128)) = true from rfl) _ (List.getElem_mem h16) |> of_decide_eq_true
    intro t G8 H8 s8 B8 hl8 ht hp
    refine ⟨L, rfl, _, .inl (sq_of (B8.ex _ _ hl8)), signs_size t (by omega), ?_⟩
    rw [join_signs]
    exact k t H8 (fun c hc => hp c hc) (by omega) (B8.weak s8)
  try simp only [tSeq, tAsg, tAnd, tOr, tNot, tTest, tB, tOp, tUn, tCB, tCons, tNil, tVar, tC, gName, rI0, rI, rU, rEq, rNe, rIxS, rIxL, rIxT, tRet, tRetN, tTup, tLst, tSl, tPart, tNoPart, rSlS, tIf, tNext, tDrop, tCall, tBM, tBM0, tAndV, tOrV, tNotV, tM0, tM1, gSub, rSetL, sFld, gCons_eq, gNil_eq, tCallS_eq, tDGet, sDPut, tMeth, tMake, tFld, tChain, tIsN, tNotN,
  List.set_cons_zero, List.set_cons_succ, exists_eq_left', exists_eq_left, exists_eq, V.int.injEq, V.str.injEq, V.bl.injEq, V.ref.injEq, List.cons.injEq, and_true, true_and, List.getElem?_cons_zero, List.getElem?_cons_succ, Option.some.injEq, List.append_nil, exists_and_left, cxOf_K, false_and, and_false, exists_false, false_or, or_false, exists_eq', exists_const, sg_eq, S_eq, S_toList, S_ne, tFor_eq, tLc_eq, iList_eq, iTup_eq, iRng1_eq, iStr_eq, decide_eq_true_eq, Bool.not_eq_true', decide_eq_false_iff_not, if_true, if_false, Bool.false_eq_true, reduceCtorEq, Bool.true_eq_false, decide_true, decide_false]
  refine entry_ B1 fun v e G2 H2 he1 he4 hok s2 B2 d2 => ?_
  try simp only [tSeq, tAsg, tAnd, tOr, tNot, tTest, tB, tOp, tUn, tCB, tCons, tNil, tVar, tC, gName, rI0, rI, rU, rEq, rNe, rIxS, rIxL, rIxT, tRet, tRetN, tTup, tLst, tSl, tPart, tNoPart, rSlS, tIf, tNext, tDrop, tCall, tBM, tBM0, tAndV, tOrV, tNotV, tM0, tM1, gSub, rSetL, sFld, gCons_eq, gNil_eq, tCallS_eq, tDGet, sDPut, tMeth, tMake, tFld, tChain, tIsN, tNotN,
  List.set_cons_zero, List.set_cons_succ, exists_eq_left', exists_eq_left, exists_eq, V.int.injEq, V.str.injEq, V.bl.injEq, V.ref.injEq, List.cons.injEq, and_true, true_and, List.getElem?_cons_zero, List.getElem?_cons_succ, Option.some.injEq, List.append_nil, exists_and_left, cxOf_K, false_and, and_false, exists_false, false_or, or_false, exists_eq', exists_const, sg_eq, S_eq, S_toList, S_ne, tFor_eq, tLc_eq, iList_eq, iTup_eq, iRng1_eq, iStr_eq, decide_eq_true_eq, Bool.not_eq_true', decide_eq_false_iff_not, if_true, if_false, Bool.false_eq_true, reduceCtorEq, Bool.true_eq_false, decide_true, decide_false]
  refine if_fin (fun σ' H' => ∃ (G3 : Hp) (v : V) (e : List Act), σ' = [some (.ref b), some (.int (kd : Int)), some v, none, none] ∧ Same G G3 ∧ Bx b G3 H' ∧ Dp K G3 v (entD e) ∧ (∀ a ∈ e, actOk a) ∧ e.length ≤ 4) ?_ ?_
  rotate_left
  · intro nx fin
    simp only [tSeq, tAsg, tAnd, tOr, tNot, tTest, tB, tOp, tUn, tCB, tCons, tNil, tVar, tC, gName, rI0, rI, rU, rEq, rNe, rIxS, rIxL, rIxT, tRet, tRetN, tTup, tLst, tSl, tPart, tNoPart, rSlS, tIf, tIfS, tNext, tDrop, tCall, tBM, tBM0, tAndV, tOrV, tNotV, tM0, tM1, gSub, rSetL, sFld, gCons_eq, gNil_eq, tCallS_eq, tDGet, sDPut, tMeth, tMake, tFld, tChain, tIsN, tNotN,
  List.set_cons_zero, List.set_cons_succ, exists_eq_left', exists_eq_left, exists_eq, V.int.injEq, V.str.injEq, V.bl.injEq, V.ref.injEq, List.cons.injEq, and_true, true_and, List.getElem?_cons_zero, List.getElem?_cons_succ, Option.some.injEq, List.append_nil, exists_and_left, cxOf_K, false_and, and_false, exists_false, false_or, or_false, exists_eq', exists_const, sg_eq, S_eq, S_toList, S_ne, tFor_eq, tLc_eq, iList_eq, iTup_eq, iRng1_eq, iStr_eq, decide_eq_true_eq, Bool.not_eq_true', decide_eq_false_iff_not, if_true, if_false, Bool.false_eq_true, reduceCtorEq, Bool.true_eq_false, decide_true, decide_false]
    refine take_ B2 (by decide) (by decide) fun r3 H3 hr3 B3 => ?_
    simp only [tSeq, tAsg, tAnd, tOr, tNot, tTest, tB, tOp, tUn, tCB, tCons, tNil, tVar, tC, gName, rI0, rI, rU, rEq, rNe, rIxS, rIxL, rIxT, tRet, tRetN, tTup, tLst, tSl, tPart, tNoPart, rSlS, tIf, tIfS, tNext, tDrop, tCall, tBM, tBM0, tAndV, tOrV, tNotV, tM0, tM1, gSub, rSetL, sFld, gCons_eq, gNil_eq, tCallS_eq, tDGet, sDPut, tMeth, tMake, tFld, tChain, tIsN, tNotN,
  List.set_cons_zero, List.set_cons_succ, exists_eq_left', exists_eq_left, exists_eq, V.int.injEq, V.str.injEq, V.bl.injEq, V.ref.injEq, List.cons.injEq, and_true, true_and, List.getElem?_cons_zero, List.getElem?_cons_succ, Option.some.injEq, List.append_nil, exists_and_left, cxOf_K, false_and, and_false, exists_false, false_or, or_false, exists_eq', exists_const, sg_eq, S_eq, S_toList, S_ne, tFor_eq, tLc_eq, iList_eq, iTup_eq, iRng1_eq, iStr_eq, decide_eq_true_eq, Bool.not_eq_true', decide_eq_false_iff_not, if_true, if_false, Bool.false_eq_true, reduceCtorEq, Bool.true_eq_false, decide_true, decide_false]
    refine ⟨rfl, ite2 (fun _ => ?_) (fun _ => ?_)⟩
    · refine ⟨(size_le (by simp only [List.length_cons, List.length_nil]; decide)), ?_⟩
      (intro p4 np4; generalize hqp4 : upd _ p4 _ = H4; obtain ⟨G4, gp4, e4, B4, f4⟩ := alB_ B3 np4 hqp4; clear hqp4 np4)
      refine ⟨(size_le (by simp only [List.length_cons, List.length_nil]; decide)), ?_⟩
      (intro p5 np5; generalize hqp5 : upd _ p5 _ = H5; obtain ⟨G5, gp5, e5, B5, f5⟩ := alB_ B4 np5 hqp5; clear hqp5 np5)
      refine ⟨(size_le (by simp only [List.length_cons, List.length_nil]; decide)), ?_⟩
      (intro p6 np6; generalize hqp6 : upd _ p6 _ = H6; obtain ⟨G6, gp6, e6, B6, f6⟩ := alB_ B5 np6 hqp6; clear hqp6 np6)
      refine take_ B6 (by decide) (by decide) fun r7 H7 hr7 B7 => ?_
      simp only [tSeq, tAsg, tAnd, tOr, tNot, tTest, tB, tOp, tUn, tCB, tCons, tNil, tVar, tC, gName, rI0, rI, rU, rEq, rNe, rIxS, rIxL, rIxT, tRet, tRetN, tTup, tLst, tSl, tPart, tNoPart, rSlS, tIf, tIfS, tNext, tDrop, tCall, tBM, tBM0, tAndV, tOrV, tNotV, tM0, tM1, gSub, rSetL, sFld, gCons_eq, gNil_eq, tCallS_eq, tDGet, sDPut, tMeth, tMake, tFld, tChain, tIsN, tNotN,
  List.set_cons_zero, List.set_cons_succ, exists_eq_left', exists_eq_left, exists_eq, V.int.injEq, V.str.injEq, V.bl.injEq, V.ref.injEq, List.cons.injEq, and_true, true_and, List.getElem?_cons_zero, List.getElem?_cons_succ, Option.some.injEq, List.append_nil, exists_and_left, cxOf_K, false_and, and_false, exists_false, false_or, or_false, exists_eq', exists_const, sg_eq, S_eq, S_toList, S_ne, tFor_eq, tLc_eq, iList_eq, iTup_eq, iRng1_eq, iStr_eq, decide_eq_true_eq, Bool.not_eq_true', decide_eq_false_iff_not, if_true, if_false, Bool.false_eq_true, reduceCtorEq, Bool.true_eq_false, decide_true, decide_false]
      have g4 := e6 _ _ (e5 _ _ f4)
      have g5 := e6 _ _ f5
      obtain ⟨q, a, hq, ha, hqa⟩ : ∃ (q : Addr) (a : Act), atI [V.ref p4, V.ref p5] (r7 : Int) = some (.ref q) ∧ actOk a ∧ Dp K G6 (.ref q) (actD a) := by
        match r7, hr7 with
        | 0, _ => exact ⟨p4, .back, rfl, trivial, .tup (st_of g4) (dp_strs [S wBack])⟩
        | 1, _ => exact ⟨p5, .again, rfl, trivial, .tup (st_of g5) (dp_strs [S wAgain])⟩
        | n + 2, h => exact absurd h (by omega)
      refine ⟨_, sq_of (B7.ex _ _ f6), _, hq, (size_le (by simp only [List.length_cons, List.length_nil]; decide)), ?_⟩
      (intro p8 np8; generalize hqp8 : upd _ p8 _ = H8; obtain ⟨G8, gp8, e8, B8, f8⟩ := alB_ B7 np8 hqp8; clear hqp8 np8)
      exact fin _ _ ⟨G8, _, [a], rfl, (((s2.trans e4).trans e5).trans e6).trans e8, B8, .tup (st_of f8) (.cons (Dp.ext e8 hqa) .nil), fun x hx => by rw [List.mem_singleton.mp hx]; exact ha, by simp⟩
    · exact fin _ _ ⟨G2, v, e, rfl, s2, B3, d2, fun a ha => (hok a ha).1, he4⟩
  rintro σ H3 ⟨G3, v, e, rfl, s3, B3, d3, hok3, h43⟩
  try simp only [tSeq, tAsg, tAnd, tOr, tNot, tTest, tB, tOp, tUn, tCB, tCons, tNil, tVar, tC, gName, rI0, rI, rU, rEq, rNe, rIxS, rIxL, rIxT, tRet, tRetN, tTup, tLst, tSl, tPart, tNoPart, rSlS, tIf, tNext, tDrop, tCall, tBM, tBM0, tAndV, tOrV, tNotV, tM0, tM1, gSub, rSetL, sFld, gCons_eq, gNil_eq, tCallS_eq, tDGet, sDPut, tMeth, tMake, tFld, tChain, tIsN, tNotN,
  List.set_cons_zero, List.set_cons_succ, exists_eq_left', exists_eq_left, exists_eq, V.int.injEq, V.str.injEq, V.bl.injEq, V.ref.injEq, List.cons.injEq, and_true, true_and, List.getElem?_cons_zero, List.getElem?_cons_succ, Option.some.injEq, List.append_nil, exists_and_left, cxOf_K, false_and, and_false, exists_false, false_or, or_false, exists_eq', exists_const, sg_eq, S_eq, S_toList, S_ne, tFor_eq, tLc_eq, iList_eq, iTup_eq, iRng1_eq, iStr_eq, decide_eq_true_eq, Bool.not_eq_true', decide_eq_false_iff_not, if_true, if_false, Bool.false_eq_true, reduceCtorEq, Bool.true_eq_false, decide_true, decide_false]
  refine ⟨v, e, rfl, Dp.ext B3.ex d3, hok3, h43, fun H4 s4 => ?_⟩
  have B4 := B3.same s4
  obtain ⟨ea, el⟩ := eT_ok hok3 h43
  refine if_pure (decide (kd = 2)) (fun R rr => ?_) (fun _ => ?_) (fun _ => ?_)
  · simp only [tSeq, tAsg, tAnd, tOr, tNot, tTest, tB, tOp, tUn, tCB, tCons, tNil, tVar, tC, gName, rI0, rI, rU, rEq, rNe, rIxS, rIxL, rIxT, tRet, tRetN, tTup, tLst, tSl, tPart, tNoPart, rSlS, tIf, tIfS, tNext, tDrop, tCall, tBM, tBM0, tAndV, tOrV, tNotV, tM0, tM1, gSub, rSetL, sFld, gCons_eq, gNil_eq, tCallS_eq, tDGet, sDPut, tMeth, tMake, tFld, tChain, tIsN, tNotN,
  List.set_cons_zero, List.set_cons_succ, exists_eq_left', exists_eq_left, exists_eq, V.int.injEq, V.str.injEq, V.bl.injEq, V.ref.injEq, List.cons.injEq, and_true, true_and, List.getElem?_cons_zero, List.getElem?_cons_succ, Option.some.injEq, List.append_nil, exists_and_left, cxOf_K, false_and, and_false, exists_false, false_or, or_false, exists_eq', exists_const, sg_eq, S_eq, S_toList, S_ne, tFor_eq, tLc_eq, iList_eq, iTup_eq, iRng1_eq, iStr_eq, decide_eq_true_eq, Bool.not_eq_true', decide_eq_false_iff_not, if_true, if_false, Bool.false_eq_true, reduceCtorEq, Bool.true_eq_false, decide_true, decide_false]
    have e9 : decide ((kd : Int) = 2) = decide (kd = 2) := by
      rw [Bool.eq_iff_iff]
      simp
      omega
    rw [e9]
    exact ⟨rfl, rr⟩
  · simp only [tSeq, tAsg, tAnd, tOr, tNot, tTest, tB, tOp, tUn, tCB, tCons, tNil, tVar, tC, gName, rI0, rI, rU, rEq, rNe, rIxS, rIxL, rIxT, tRet, tRetN, tTup, tLst, tSl, tPart, tNoPart, rSlS, tIf, tNext, tDrop, tCall, tBM, tBM0, tAndV, tOrV, tNotV, tM0, tM1, gSub, rSetL, sFld, gCons_eq, gNil_eq, tCallS_eq, tDGet, sDPut, tMeth, tMake, tFld, tChain, tIsN, tNotN,
  List.set_cons_zero, List.set_cons_succ, exists_eq_left', exists_eq_left, exists_eq, V.int.injEq, V.str.injEq, V.bl.injEq, V.ref.injEq, List.cons.injEq, and_true, true_and, List.getElem?_cons_zero, List.getElem?_cons_succ, Option.some.injEq, List.append_nil, exists_and_left, cxOf_K, false_and, and_false, exists_false, false_or, or_false, exists_eq', exists_const, sg_eq, S_eq, S_toList, S_ne, tFor_eq, tLc_eq, iList_eq, iTup_eq, iRng1_eq, iStr_eq, decide_eq_true_eq, Bool.not_eq_true', decide_eq_false_iff_not, if_true, if_false, Bool.false_eq_true, reduceCtorEq, Bool.true_eq_false, decide_true, decide_false]
    refine ⟨size_le (by rw [S_len, S_len]; simp; omega), ?_⟩
    rw [S_cat]
    refine entry_ B4 fun v5 e5 G5 H5 he15 he45 hok5 s5 B5 d5 => ?_
    refine ⟨v5, e5, rfl, Dp.ext B5.ex d5, fun a ha => (hok5 a ha).1, he45, fun H6 s6 => ?_⟩
    obtain ⟨ea5, el5⟩ := eT_ok (fun a ha => (hok5 a ha).1) he45
    refine ⟨_, rfl, size_le (by rw [S_len, S_len, List.length_append]; simp; omega), ?_⟩
    rw [S_cat]
    exact k _ H6 (asc_app (asc_app ea (asc_of rfl)) ea5) (by rw [List.length_append, List.length_append]; simp; omega) ((B5.same s6).weak (s3.trans s5))
  try simp only [tSeq, tAsg, tAnd, tOr, tNot, tTest, tB, tOp, tUn, tCB, tCons, tNil, tVar, tC, gName, rI0, rI, rU, rEq, rNe, rIxS, rIxL, rIxT, tRet, tRetN, tTup, tLst, tSl, tPart, tNoPart, rSlS, tIf, tNext, tDrop, tCall, tBM, tBM0, tAndV, tOrV, tNotV, tM0, tM1, gSub, rSetL, sFld, gCons_eq, gNil_eq, tCallS_eq, tDGet, sDPut, tMeth, tMake, tFld, tChain, tIsN, tNotN,
  List.set_cons_zero, List.set_cons_succ, exists_eq_left', exists_eq_left, exists_eq, V.int.injEq, V.str.injEq, V.bl.injEq, V.ref.injEq, List.cons.injEq, and_true, true_and, List.getElem?_cons_zero, List.getElem?_cons_succ, Option.some.injEq, List.append_nil, exists_and_left, cxOf_K, false_and, and_false, exists_false, false_or, or_false, exists_eq', exists_const, sg_eq, S_eq, S_toList, S_ne, tFor_eq, tLc_eq, iList_eq, iTup_eq, iRng1_eq, iStr_eq, decide_eq_true_eq, Bool.not_eq_true', decide_eq_false_iff_not, if_true, if_false, Bool.false_eq_true, reduceCtorEq, Bool.true_eq_false, decide_true, decide_false]
  refine if_fin (fun σ' H' => σ' = [some (.ref b), some (.int (kd : Int)), some v, some (.str (S (eText e))), none] ∧ Bx b G3 H') ?_ ?_
  rotate_left
  · intro nx fin
    simp only [tSeq, tAsg, tAnd, tOr, tNot, tTest, tB, tOp, tUn, tCB, tCons, tNil, tVar, tC, gName, rI0, rI, rU, rEq, rNe, rIxS, rIxL, rIxT, tRet, tRetN, tTup, tLst, tSl, tPart, tNoPart, rSlS, tIf, tIfS, tNext, tDrop, tCall, tBM, tBM0, tAndV, tOrV, tNotV, tM0, tM1, gSub, rSetL, sFld, gCons_eq, gNil_eq, tCallS_eq, tDGet, sDPut, tMeth, tMake, tFld, tChain, tIsN, tNotN,
  List.set_cons_zero, List.set_cons_succ, exists_eq_left', exists_eq_left, exists_eq, V.int.injEq, V.str.injEq, V.bl.injEq, V.ref.injEq, List.cons.injEq, and_true, true_and, List.getElem?_cons_zero, List.getElem?_cons_succ, Option.some.injEq, List.append_nil, exists_and_left, cxOf_K, false_and, and_false, exists_false, false_or, or_false, exists_eq', exists_const, sg_eq, S_eq, S_toList, S_ne, tFor_eq, tLc_eq, iList_eq, iTup_eq, iRng1_eq, iStr_eq, decide_eq_true_eq, Bool.not_eq_true', decide_eq_false_iff_not, if_true, if_false, Bool.false_eq_true, reduceCtorEq, Bool.true_eq_false, decide_true, decide_false]
    refine take_ B4 (by decide) (by decide) fun r5 H5 hr5 B5 => ?_
    simp only [tSeq, tAsg, tAnd, tOr, tNot, tTest, tB, tOp, tUn, tCB, tCons, tNil, tVar, tC, gName, rI0, rI, rU, rEq, rNe, rIxS, rIxL, rIxT, tRet, tRetN, tTup, tLst, tSl, tPart, tNoPart, rSlS, tIf, tIfS, tNext, tDrop, tCall, tBM, tBM0, tAndV, tOrV, tNotV, tM0, tM1, gSub, rSetL, sFld, gCons_eq, gNil_eq, tCallS_eq, tDGet, sDPut, tMeth, tMake, tFld, tChain, tIsN, tNotN,
  List.set_cons_zero, List.set_cons_succ, exists_eq_left', exists_eq_left, exists_eq, V.int.injEq, V.str.injEq, V.bl.injEq, V.ref.injEq, List.cons.injEq, and_true, true_and, List.getElem?_cons_zero, List.getElem?_cons_succ, Option.some.injEq, List.append_nil, exists_and_left, cxOf_K, false_and, and_false, exists_false, false_or, or_false, exists_eq', exists_const, sg_eq, S_eq, S_toList, S_ne, tFor_eq, tLc_eq, iList_eq, iTup_eq, iRng1_eq, iStr_eq, decide_eq_true_eq, Bool.not_eq_true', decide_eq_false_iff_not, if_true, if_false, Bool.false_eq_true, reduceCtorEq, Bool.true_eq_false, decide_true, decide_false]
    refine ⟨rfl, ite2 (fun _ => ?_) (fun _ => fin _ _ ⟨rfl, B5⟩)⟩
    exact k _ H5 ea (by omega) (B5.weak s3)
  rintro σ H5 ⟨rfl, B5⟩
  simp only [tSeq, tAsg, tAnd, tOr, tNot, tTest, tB, tOp, tUn, tCB, tCons, tNil, tVar, tC, gName, rI0, rI, rU, rEq, rNe, rIxS, rIxL, rIxT, tRet, tRetN, tTup, tLst, tSl, tPart, tNoPart, rSlS, tIf, tIfS, tNext, tDrop, tCall, tBM, tBM0, tAndV, tOrV, tNotV, tM0, tM1, gSub, rSetL, sFld, gCons_eq, gNil_eq, tCallS_eq, tDGet, sDPut, tMeth, tMake, tFld, tChain, tIsN, tNotN,
  List.set_cons_zero, List.set_cons_succ, exists_eq_left', exists_eq_left, exists_eq, V.int.injEq, V.str.injEq, V.bl.injEq, V.ref.injEq, List.cons.injEq, and_true, true_and, List.getElem?_cons_zero, List.getElem?_cons_succ, Option.some.injEq, List.append_nil, exists_and_left, cxOf_K, false_and, and_false, exists_false, false_or, or_false, exists_eq', exists_const, sg_eq, S_eq, S_toList, S_ne, tFor_eq, tLc_eq, iList_eq, iTup_eq, iRng1_eq, iStr_eq, decide_eq_true_eq, Bool.not_eq_true', decide_eq_false_iff_not, if_true, if_false, Bool.false_eq_true, reduceCtorEq, Bool.true_eq_false, decide_true, decide_false]
  exact spoilt_ B5 ea (by omega) fun t2 H6 ta2 tl2 B6 => k t2 H6 ta2 (by omega) (B6.weak s3)
theorem text_of_ {b : Addr} {G H : Hp} {Q : VK} {E : XK} (B : Bx b G H) (k : ∀ (t : Tx) H', asc t → t.length ≤ 300 → Bx b G H' → Q (.str (S t)) H') : sp_text_of [.ref b] H Q E := ⟨b, G, rfl, B, k⟩
end
/-! ### what the law holds for good -/
def sp_gword : Sp := fun vs H Q _ => ∃ t : Tx, vs = [.str (S t)] ∧ ((wordOk t ∧ ∀ H', Same H H' → Q (.bl true) H') ∨ (t = [] ∧ Q (.bl false) H))
abbrev s_l_good_word : Stmt := (top 26)
theorem sc_l_good_word : FnScope ["_law_word_here", "_law_signs", "_law_s"] ["_law_word_here"] (defScope s_l_good_word) := ⟨rfl, rfl, rfl, by decide +kernel, rfl, by decide +kernel, by decide +kernel⟩

section
variable {P : Program} {w : World} {K : PySem.W.Frag} {mg : Str → Option Value} {base : Heap}
theorem ok_gword {f : Addr} {fd : FuncData} (F : FunS K "_law_good_word" s_l_good_word f fd) (b_isinstance : mg "isinstance" = none) (b_len : mg "len" = none) (b_str : mg "str" = none) : FnOk P w K mg base CX0 1 f fd ["_law_word_here"] sp_gword := by
  refine F.ok sc_l_good_word (fun vs H Q E h => ?_) (fun cdv A outer s H vs Q E hr h => ?_)
  · obtain ⟨t, rfl, _⟩ := h
    rfl
  obtain ⟨t, rfl, hh⟩ := h
  refine ⟨_, PSs.nox (pss_cons (ps_set (i := 1) sc_l_good_word.nd rfl (.inr rfl) pe_str)
  (pss_one (ps_ret (pe_and (pe_callB call_isi (by rfl) b_isinstance (by decide +kernel) (pa_cons (pv 0) (pa_cons (pe_bltn (v := .ty "str") (by rfl) b_str (by decide +kernel) rfl) pa_nil))) (pe_and (pe_cmpR op_lt pe_int (pe_callB call_len_str (by rfl) b_len PySem.boot_len (pa_cons (pv 0) pa_nil)) (nomark _)) (pe_and (pe_cmpR op_lt (pe_callB call_len_str (by rfl) b_len PySem.boot_len (pa_cons (pv 0) pa_nil)) pe_int (nomark _)) (pe_one (pe_cmpR (op_eqD hr.units) (pe_lc (own := [("_law_s", 2)]) rfl sc_l_good_word.nd (pi_str (pv 0)) (blkOk_by (N := ["_law_word_here", "_law_signs", "_law_s"]) (sc := defScope s_l_good_word) (own := [("_law_s", 2)]) (by decide +kernel)) (fun _ _ _ _ _ => (pg_name (i := 2) sc_l_good_word.nd rfl (.inl rfl))) (fun _ _ _ _ _ => (pts_one (pt_cmpR op_notIn_sign (pv 2) (pv 1) rfl))) (fun _ _ _ _ _ => (pv 2))) (pe_lst pa_nil) (nomark _))))))))), ?_⟩
  simp only [tSeq, tAsg, tAnd, tOr, tNot, tTest, tB, tOp, tUn, tCB, tCons, tNil, tVar, tC, gName, rI0, rI, rU, rEq, rNe, rIxS, rIxL, rIxT, tRet, tRetN, tTup, tLst, tSl, tPart, tNoPart, rSlS, tIf, tIfS, tNext, tDrop, tCall, tBM, tBM0, tAndV, tOrV, tNotV, tM0, tM1, gSub, rSetL, sFld, gCons_eq, gNil_eq, tCallS_eq, tDGet, sDPut, tMeth, tMake, tFld, tChain, tIsN, tNotN,
  List.set_cons_zero, List.set_cons_succ, exists_eq_left', exists_eq_left, exists_eq, V.int.injEq, V.str.injEq, V.bl.injEq, V.ref.injEq, List.cons.injEq, and_true, true_and, List.getElem?_cons_zero, List.getElem?_cons_succ, Option.some.injEq, List.append_nil, exists_and_left, cxOf_K, false_and, and_false, exists_false, false_or, or_false, exists_eq', exists_const, sg_eq, S_eq, S_toList, S_ne, tFor_eq, tLc_eq, iList_eq, iTup_eq, iRng1_eq, iStr_eq, decide_eq_true_eq, Bool.not_eq_true', decide_eq_false_iff_not, if_true, if_false, Bool.false_eq_true, reduceCtorEq, Bool.true_eq_false, decide_true, decide_false, lit_97_98_99_100_101_102_103_104_105_106_107_108_109_110_111_112_113_114_115_116_117_118_119_120_121_122_48_49_50_51_52_53_54_55_56_57_39_45, start1_3]
  refine isi (.str _) rfl (vT ?_)
  have sl : (S t).length = t.length := S_len t
  rcases hh with ⟨ht, k⟩ | ⟨rfl, k⟩
  · have h1 := ht.1
    have h16 := ht.2.1
    refine ⟨size_le (by omega), ?_⟩
    rw [if_pos (by omega)]
    refine ⟨size_le (by omega), ?_⟩
    rw [if_pos (by omega)]
    intro L hL
    refine comp_str t (fun rest acc H' => Same H H' ∧ acc = [] ∧ ∃ done, t = done ++ rest) (by omega) ⟨same_new hL, rfl, [], rfl⟩ upd_same ?_ ?_
    · rintro i c r acc H3 hA hn hi ⟨s3, rfl, done, e⟩
      simp only [wipe, List.map_cons, List.map_nil, List.set_cons_succ, List.set_cons_zero, tSeq, tAsg, tAnd, tOr, tNot, tTest, tB, tOp, tUn, tCB, tCons, tNil, tVar, tC, gName, rI0, rI, rU, rEq, rNe, rIxS, rIxL, rIxT, tRet, tRetN, tTup, tLst, tSl, tPart, tNoPart, rSlS, tIf, tIfS, tNext, tDrop, tCall, tBM, tBM0, tAndV, tOrV, tNotV, tM0, tM1, gSub, rSetL, sFld, gCons_eq, gNil_eq, tCallS_eq, tDGet, sDPut, tMeth, tMake, tFld, tChain, tIsN, tNotN,
  List.set_cons_zero, List.set_cons_succ, exists_eq_left', exists_eq_left, exists_eq, V.int.injEq, V.str.injEq, V.bl.injEq, V.ref.injEq, List.cons.injEq, and_true, true_and, List.getElem?_cons_zero, List.getElem?_cons_succ, Option.some.injEq, List.append_nil, exists_and_left, cxOf_K, false_and, and_false, exists_false, false_or, or_false, exists_eq', exists_const, sg_eq, S_eq, S_toList, S_ne, tFor_eq, tLc_eq, iList_eq, iTup_eq, iRng1_eq, iStr_eq, decide_eq_true_eq, Bool.not_eq_true', decide_eq_false_iff_not, if_true, if_false, Bool.false_eq_true, reduceCtorEq, Bool.true_eq_false, decide_true, decide_false]
      have hc : wsign c = true := ht.2.2 c (by rw [e]; exact List.mem_append_right _ List.mem_cons_self)
      have hm : c ∈ signsT := of_decide_eq_true ((wsign_mem c (wsign_lt hc)).symm.trans hc)
      rw [if_neg (fun z => z hm)]
      exact cskip hA hn ⟨s3, rfl, done ++ [c], by rw [e]; simp⟩
    · rintro acc H3 hA hn ⟨s3, rfl, _⟩
      refine ⟨(size_le (by simp only [List.length_cons, List.length_nil]; decide)), fun p np => ?_⟩
      have g1 : upd H3 p (HO.lst []) L = some (.lst []) := (same_new np) _ _ hA
      refine ⟨.list [], .list [], .lst (sq_of g1) .nil, .lst (sq_of upd_same) .nil, rfl, rfl, ?_⟩
      exact k _ (s3.trans (same_new np))
  · refine ⟨(size_le (by (try simp only [S_len, List.length_append, List.length_cons, List.length_nil]); omega)), ?_⟩
    rw [if_neg (by decide)]
    exact k
end
def sp_good (K : PySem.W.Frag) : Sp := fun vs H Q _ => ∃ (v : V) (a : Act), vs = [v] ∧ Dp K H v (actD a) ∧ actOk a ∧ ∀ H', Same H H' → Q (.bl true) H'
abbrev s_l_good : Stmt := (top 27)
theorem sc_l_good : FnScope ["_law_action_here", "_law_sides", "_law_side"] ["_law_action_here"] (defScope s_l_good) := ⟨rfl, rfl, rfl, by decide +kernel, rfl, by decide +kernel, by decide +kernel⟩

section
variable {P : Program} {w : World} {K : PySem.W.Frag} {mg : Str → Option Value} {base : Heap}
theorem ok_good {f : Addr} {fd : FuncData} (F : FunS K "_law_good" s_l_good f fd) (b_bool : mg "bool" = none) (b_isinstance : mg "isinstance" = none) (b_len : mg "len" = none) (b_str : mg "str" = none) (b_tuple : mg "tuple" = none) (c_l_good_word : Cal P w K mg base CX0 1 "_law_good_word" sp_gword) : FnOk P w K mg base CX0 2 f fd ["_law_action_here"] (sp_good K) := by
  refine F.ok sc_l_good (fun vs H Q E h => ?_) (fun cdv A outer s H vs Q E hr h => ?_)
  · obtain ⟨v, a, rfl, _⟩ := h
    rfl
  obtain ⟨v, a, rfl, hd, ha, k⟩ := h
  refine ⟨_, PSs.nox (pss_cons (ps_if (PW.pt (pw_or (pt_not (pt_val (pe_callB call_isi (by rfl) b_isinstance (by decide +kernel) (pa_cons (pv 0) (pa_cons (pe_bltn (v := .ty "tuple") (by rfl) b_tuple (by decide +kernel) rfl) pa_nil))))) (pw_or (pt_cmpR op_eq (pe_callB call_len_seq (by rfl) b_len PySem.boot_len (pa_cons (pv 0) pa_nil)) pe_int (nomark _)) (pw_or1 (pt_not (pt_val (pe_callB call_isi (by rfl) b_isinstance (by decide +kernel) (pa_cons (pe_ix ix_tup (pv 0) pe_int (fun _ _ => rfl)) (pa_cons (pe_bltn (v := .ty "str") (by rfl) b_str (by decide +kernel) rfl) pa_nil)))))))))
    (pss_one (ps_ret pe_bl))
    pss_nil)
  (pss_cons (ps_if (pt_cmpR op_in_seq (pe_ix ix_tup (pv 0) pe_int (fun _ _ => rfl)) (pe_tup (pa_cons pe_str (pa_cons pe_str pa_nil))) (by rfl))
    (pss_one (ps_ret (pe_and (pe_cmpR op_eq (pe_callB call_len_seq (by rfl) b_len PySem.boot_len (pa_cons (pv 0) pa_nil)) pe_int (nomark _)) (pe_one (pe_c c_l_good_word hr (by first | decide | omega) (by rfl) (pa_cons (pe_ix ix_tup (pv 0) pe_int (fun _ _ => rfl)) pa_nil))))))
    pss_nil)
  (pss_cons (ps_if (pt_cmpR op_eq (pe_ix ix_tup (pv 0) pe_int (fun _ _ => rfl)) pe_str (nomark _))
    (pss_one (ps_ret (pe_and (pe_cmpR op_eq (pe_callB call_len_seq (by rfl) b_len PySem.boot_len (pa_cons (pv 0) pa_nil)) pe_int (nomark _)) (pe_one (pe_cmpR op_in_seq (pe_ix ix_tup (pv 0) pe_int (fun _ _ => rfl)) (pe_tup (pa_cons pe_str (pa_cons pe_str (pa_cons pe_str (pa_cons pe_str (pa_cons pe_str (pa_cons pe_str pa_nil))))))) (by rfl))))))
    pss_nil)
  (pss_cons (ps_if (PW.pt (pw_and (pt_cmpR op_eq (pe_ix ix_tup (pv 0) pe_int (fun _ _ => rfl)) pe_str (nomark _)) (pw_and1 (pt_cmpR op_eq (pe_callB call_len_seq (by rfl) b_len PySem.boot_len (pa_cons (pv 0) pa_nil)) pe_int (nomark _)))))
    (pss_cons (ps_setLc (i := 1) (own := [("_law_side", 2)]) rfl sc_l_good.nd rfl rfl (sw_true rfl rfl rfl (by decide +kernel)) (pi_tup (pe_slice sl_tupA (pv 0) (po_some pe_int) po_none)) (blkOk_by (N := ["_law_action_here", "_law_sides", "_law_side"]) (sc := defScope s_l_good) (own := [("_law_side", 2)]) (by decide +kernel)) (fun _ _ _ _ _ => (pg_name (i := 2) sc_l_good.nd rfl (.inl rfl))) (fun _ _ _ _ _ => pts_nil) (fun _ _ _ _ _ => (pe_callB (isiK (K := K) rfl) (by rfl) b_isinstance (by decide +kernel) (pa_cons (pv 2) (pa_cons (pe_bltn (v := .ty "bool") (by rfl) b_bool (by decide +kernel) rfl) pa_nil)))))
  (pss_cons (ps_if (PW.pt (pw_or (pt_cmpR (op_neD hr.units) (pv 1) (pe_lst (pa_cons pe_bl (pa_cons pe_bl pa_nil))) (nomark _)) (pw_or1 (PW.pt (pw_and (pt_not (pt_val (pe_ix ix_tup (pv 0) pe_int (fun _ _ => rfl)))) (pw_and1 (pt_not (pt_val (pe_ix ix_tup (pv 0) pe_int (fun _ _ => rfl))))))))))
    (pss_one (ps_ret pe_bl))
    pss_nil)
  (pss_one (ps_ret (pe_or (pe_c c_l_good_word hr (by first | decide | omega) (by rfl) (pa_cons (pe_ix ix_tup (pv 0) pe_int (fun _ _ => rfl)) pa_nil)) (pe_one (pe_cmpR (op_eqD hr.units) (pv 0) (pe_tup (pa_cons pe_str (pa_cons pe_str (pa_cons pe_bl (pa_cons pe_bl pa_nil))))) (nomark _))))))))
    pss_nil)
  (pss_one (ps_ret (pe_cmpR (op_inT (units1 hr)) (pv 0) (pe_tup (pa_cons (pe_tup (pa_cons pe_str pa_nil)) (pa_cons (pe_tup (pa_cons pe_str pa_nil)) (pa_cons (pe_tup (pa_cons pe_str pa_nil)) (pa_cons (pe_tup (pa_cons pe_str pa_nil)) (pa_cons (pe_tup (pa_cons pe_str pa_nil)) pa_nil)))))) (by rfl)))))))), ?_⟩
  simp only [tSeq, tAsg, tAnd, tOr, tNot, tTest, tB, tOp, tUn, tCB, tCons, tNil, tVar, tC, gName, rI0, rI, rU, rEq, rNe, rIxS, rIxL, rIxT, tRet, tRetN, tTup, tLst, tSl, tPart, tNoPart, rSlS, tIf, tNext, tDrop, tCall, tBM, tBM0, tAndV, tOrV, tNotV, tM0, tM1, gSub, rSetL, sFld, gCons_eq, gNil_eq, tCallS_eq, tDGet, sDPut, tMeth, tMake, tFld, tChain, tIsN, tNotN,
  List.set_cons_zero, List.set_cons_succ, exists_eq_left', exists_eq_left, exists_eq, V.int.injEq, V.str.injEq, V.bl.injEq, V.ref.injEq, List.cons.injEq, and_true, true_and, List.getElem?_cons_zero, List.getElem?_cons_succ, Option.some.injEq, List.append_nil, exists_and_left, cxOf_K, false_and, and_false, exists_false, false_or, or_false, exists_eq', exists_const, sg_eq, S_eq, S_toList, S_ne, tFor_eq, tLc_eq, iList_eq, iTup_eq, iRng1_eq, iStr_eq, decide_eq_true_eq, Bool.not_eq_true', decide_eq_false_iff_not, if_true, if_false, Bool.false_eq_true, reduceCtorEq, Bool.true_eq_false, decide_true, decide_false, lit_115_116_111_112, lit_119_111_114_100, lit_103_108_117_101, lit_106_111_105_110, lit_103_114_101_97_116, lit_97_108_108, lit_108_97_115_116, lit_98_97_99_107, lit_97_103_97_105_110, lit_46, lit_63, lit_33, lit_44, lit_58, lit_59, lit_, start1_3]
  obtain ⟨ds, eds⟩ : ∃ ds, actD a = .tuple ds := by cases a <;> exact ⟨_, rfl⟩
  obtain ⟨q, xs, rfl, hq⟩ := act_head hd
  have hdt : Dp K H (.ref q) (.tuple ds) := eds ▸ hd
  refine if_pure false (fun R rr => ?_) (fun e => nomatch e) (fun _ => ?_)
  · simp only [tSeq, tAsg, tAnd, tOr, tNot, tTest, tB, tOp, tUn, tCB, tCons, tNil, tVar, tC, gName, rI0, rI, rU, rEq, rNe, rIxS, rIxL, rIxT, tRet, tRetN, tTup, tLst, tSl, tPart, tNoPart, rSlS, tIf, tIfS, tNext, tDrop, tCall, tBM, tBM0, tAndV, tOrV, tNotV, tM0, tM1, gSub, rSetL, sFld, gCons_eq, gNil_eq, tCallS_eq, tDGet, sDPut, tMeth, tMake, tFld, tChain, tIsN, tNotN,
  List.set_cons_zero, List.set_cons_succ, exists_eq_left', exists_eq_left, exists_eq, V.int.injEq, V.str.injEq, V.bl.injEq, V.ref.injEq, List.cons.injEq, and_true, true_and, List.getElem?_cons_zero, List.getElem?_cons_succ, Option.some.injEq, List.append_nil, exists_and_left, cxOf_K, false_and, and_false, exists_false, false_or, or_false, exists_eq', exists_const, sg_eq, S_eq, S_toList, S_ne, tFor_eq, tLc_eq, iList_eq, iTup_eq, iRng1_eq, iStr_eq, decide_eq_true_eq, Bool.not_eq_true', decide_eq_false_iff_not, if_true, if_false, Bool.false_eq_true, reduceCtorEq, Bool.true_eq_false, decide_true, decide_false]
    refine isi hdt rfl (nT ⟨_, .inr hq, rfl, ?_⟩)
    rw [if_neg (by rw [List.length_cons]; omega)]
    exact ⟨_, hq, _, at0 _ _, isi (.str _) rfl ⟨true, rfl, rr⟩⟩
  simp only [tSeq, tAsg, tAnd, tOr, tNot, tTest, tB, tOp, tUn, tCB, tCons, tNil, tVar, tC, gName, rI0, rI, rU, rEq, rNe, rIxS, rIxL, rIxT, tRet, tRetN, tTup, tLst, tSl, tPart, tNoPart, rSlS, tIf, tNext, tDrop, tCall, tBM, tBM0, tAndV, tOrV, tNotV, tM0, tM1, gSub, rSetL, sFld, gCons_eq, gNil_eq, tCallS_eq, tDGet, sDPut, tMeth, tMake, tFld, tChain, tIsN, tNotN,
  List.set_cons_zero, List.set_cons_succ, exists_eq_left', exists_eq_left, exists_eq, V.int.injEq, V.str.injEq, V.bl.injEq, V.ref.injEq, List.cons.injEq, and_true, true_and, List.getElem?_cons_zero, List.getElem?_cons_succ, Option.some.injEq, List.append_nil, exists_and_left, cxOf_K, false_and, and_false, exists_false, false_or, or_false, exists_eq', exists_const, sg_eq, S_eq, S_toList, S_ne, tFor_eq, tLc_eq, iList_eq, iTup_eq, iRng1_eq, iStr_eq, decide_eq_true_eq, Bool.not_eq_true', decide_eq_false_iff_not, if_true, if_false, Bool.false_eq_true, reduceCtorEq, Bool.true_eq_false, decide_true, decide_false]
  refine if_new (([wWord, wGlue] : List Tx).contains (kindT a)) (fun R rr => ?_) (fun e H1 s1 => ?_) (fun e H1 s1 => ?_)
  · simp only [tSeq, tAsg, tAnd, tOr, tNot, tTest, tB, tOp, tUn, tCB, tCons, tNil, tVar, tC, gName, rI0, rI, rU, rEq, rNe, rIxS, rIxL, rIxT, tRet, tRetN, tTup, tLst, tSl, tPart, tNoPart, rSlS, tIf, tIfS, tNext, tDrop, tCall, tBM, tBM0, tAndV, tOrV, tNotV, tM0, tM1, gSub, rSetL, sFld, gCons_eq, gNil_eq, tCallS_eq, tDGet, sDPut, tMeth, tMake, tFld, tChain, tIsN, tNotN,
  List.set_cons_zero, List.set_cons_succ, exists_eq_left', exists_eq_left, exists_eq, V.int.injEq, V.str.injEq, V.bl.injEq, V.ref.injEq, List.cons.injEq, and_true, true_and, List.getElem?_cons_zero, List.getElem?_cons_succ, Option.some.injEq, List.append_nil, exists_and_left, cxOf_K, false_and, and_false, exists_false, false_or, or_false, exists_eq', exists_const, sg_eq, S_eq, S_toList, S_ne, tFor_eq, tLc_eq, iList_eq, iTup_eq, iRng1_eq, iStr_eq, decide_eq_true_eq, Bool.not_eq_true', decide_eq_false_iff_not, if_true, if_false, Bool.false_eq_true, reduceCtorEq, Bool.true_eq_false, decide_true, decide_false]
    exact ⟨_, hq, _, at0 _ _, (size_le (by simp only [List.length_cons, List.length_nil]; decide)), fun p np => in_tup false (kindT a) [wWord, wGlue] np fun H' s' => ⟨_, rfl, rr _ s'⟩⟩
  · simp only [tSeq, tAsg, tAnd, tOr, tNot, tTest, tB, tOp, tUn, tCB, tCons, tNil, tVar, tC, gName, rI0, rI, rU, rEq, rNe, rIxS, rIxL, rIxT, tRet, tRetN, tTup, tLst, tSl, tPart, tNoPart, rSlS, tIf, tIfS, tNext, tDrop, tCall, tBM, tBM0, tAndV, tOrV, tNotV, tM0, tM1, gSub, rSetL, sFld, gCons_eq, gNil_eq, tCallS_eq, tDGet, sDPut, tMeth, tMake, tFld, tChain, tIsN, tNotN,
  List.set_cons_zero, List.set_cons_succ, exists_eq_left', exists_eq_left, exists_eq, V.int.injEq, V.str.injEq, V.bl.injEq, V.ref.injEq, List.cons.injEq, and_true, true_and, List.getElem?_cons_zero, List.getElem?_cons_succ, Option.some.injEq, List.append_nil, exists_and_left, cxOf_K, false_and, and_false, exists_false, false_or, or_false, exists_eq', exists_const, sg_eq, S_eq, S_toList, S_ne, tFor_eq, tLc_eq, iList_eq, iTup_eq, iRng1_eq, iStr_eq, decide_eq_true_eq, Bool.not_eq_true', decide_eq_false_iff_not, if_true, if_false, Bool.false_eq_true, reduceCtorEq, Bool.true_eq_false, decide_true, decide_false]
    obtain ⟨nm, t, hq2, ht⟩ : ∃ nm t : Tx, SqT K H q [.str (S nm), .str (S t)] ∧ wordOk t := by
      cases a with
      | word t =>
        obtain ⟨q', e', h'⟩ := dp2 hd
        cases e'
        exact ⟨_, t, h', ha⟩
      | glue t =>
        obtain ⟨q', e', h'⟩ := dp2 hd
        cases e'
        exact ⟨_, t, h', ha⟩
      | _ => exact Bool.noConfusion (show false = true from e)
    refine ⟨_, .inr (same_t s1 hq2), rfl, ite2 (fun _ => ?_) (fun z => absurd rfl z)⟩
    exact ⟨_, same_t s1 hq2, _, at1 _ _ _, t, rfl, .inl ⟨ht, fun H' s' => k _ (s1.trans s')⟩⟩
  have hq1 := same_t s1 hq
  have hd1 := Dp.ext s1 hd
  simp only [tSeq, tAsg, tAnd, tOr, tNot, tTest, tB, tOp, tUn, tCB, tCons, tNil, tVar, tC, gName, rI0, rI, rU, rEq, rNe, rIxS, rIxL, rIxT, tRet, tRetN, tTup, tLst, tSl, tPart, tNoPart, rSlS, tIf, tNext, tDrop, tCall, tBM, tBM0, tAndV, tOrV, tNotV, tM0, tM1, gSub, rSetL, sFld, gCons_eq, gNil_eq, tCallS_eq, tDGet, sDPut, tMeth, tMake, tFld, tChain, tIsN, tNotN,
  List.set_cons_zero, List.set_cons_succ, exists_eq_left', exists_eq_left, exists_eq, V.int.injEq, V.str.injEq, V.bl.injEq, V.ref.injEq, List.cons.injEq, and_true, true_and, List.getElem?_cons_zero, List.getElem?_cons_succ, Option.some.injEq, List.append_nil, exists_and_left, cxOf_K, false_and, and_false, exists_false, false_or, or_false, exists_eq', exists_const, sg_eq, S_eq, S_toList, S_ne, tFor_eq, tLc_eq, iList_eq, iTup_eq, iRng1_eq, iStr_eq, decide_eq_true_eq, Bool.not_eq_true', decide_eq_false_iff_not, if_true, if_false, Bool.false_eq_true, reduceCtorEq, Bool.true_eq_false, decide_true, decide_false]
  refine if_pure (decide (kindT a = wStop)) (fun R rr => ?_) (fun e2 => ?_) (fun e2 => ?_)
  · simp only [tSeq, tAsg, tAnd, tOr, tNot, tTest, tB, tOp, tUn, tCB, tCons, tNil, tVar, tC, gName, rI0, rI, rU, rEq, rNe, rIxS, rIxL, rIxT, tRet, tRetN, tTup, tLst, tSl, tPart, tNoPart, rSlS, tIf, tIfS, tNext, tDrop, tCall, tBM, tBM0, tAndV, tOrV, tNotV, tM0, tM1, gSub, rSetL, sFld, gCons_eq, gNil_eq, tCallS_eq, tDGet, sDPut, tMeth, tMake, tFld, tChain, tIsN, tNotN,
  List.set_cons_zero, List.set_cons_succ, exists_eq_left', exists_eq_left, exists_eq, V.int.injEq, V.str.injEq, V.bl.injEq, V.ref.injEq, List.cons.injEq, and_true, true_and, List.getElem?_cons_zero, List.getElem?_cons_succ, Option.some.injEq, List.append_nil, exists_and_left, cxOf_K, false_and, and_false, exists_false, false_or, or_false, exists_eq', exists_const, sg_eq, S_eq, S_toList, S_ne, tFor_eq, tLc_eq, iList_eq, iTup_eq, iRng1_eq, iStr_eq, decide_eq_true_eq, Bool.not_eq_true', decide_eq_false_iff_not, if_true, if_false, Bool.false_eq_true, reduceCtorEq, Bool.true_eq_false, decide_true, decide_false]
    have e9 : decide (V.str (S (kindT a)) = V.str (S [115, 116, 111, 112])) = decide (kindT a = wStop) := decide_eq_decide.mpr str_inj
    refine ⟨_, hq1, _, at0 _ _, rfl, ?_⟩
    rw [e9]
    exact rr
  · cases a with
    | stop c =>
      obtain ⟨q', e', hq2⟩ := dp2 hd1
      cases e'
      simp only [tSeq, tAsg, tAnd, tOr, tNot, tTest, tB, tOp, tUn, tCB, tCons, tNil, tVar, tC, gName, rI0, rI, rU, rEq, rNe, rIxS, rIxL, rIxT, tRet, tRetN, tTup, tLst, tSl, tPart, tNoPart, rSlS, tIf, tIfS, tNext, tDrop, tCall, tBM, tBM0, tAndV, tOrV, tNotV, tM0, tM1, gSub, rSetL, sFld, gCons_eq, gNil_eq, tCallS_eq, tDGet, sDPut, tMeth, tMake, tFld, tChain, tIsN, tNotN,
  List.set_cons_zero, List.set_cons_succ, exists_eq_left', exists_eq_left, exists_eq, V.int.injEq, V.str.injEq, V.bl.injEq, V.ref.injEq, List.cons.injEq, and_true, true_and, List.getElem?_cons_zero, List.getElem?_cons_succ, Option.some.injEq, List.append_nil, exists_and_left, cxOf_K, false_and, and_false, exists_false, false_or, or_false, exists_eq', exists_const, sg_eq, S_eq, S_toList, S_ne, tFor_eq, tLc_eq, iList_eq, iTup_eq, iRng1_eq, iStr_eq, decide_eq_true_eq, Bool.not_eq_true', decide_eq_false_iff_not, if_true, if_false, Bool.false_eq_true, reduceCtorEq, Bool.true_eq_false, decide_true, decide_false]
      refine ⟨_, .inr hq2, rfl, ite2 (fun _ => ?_) (fun z => absurd rfl z)⟩
      refine ⟨_, hq2, _, at1 _ _ _, (size_le (by simp only [List.length_cons, List.length_nil]; decide)), fun p np => in_tup false [c] [[46], [63], [33], [44], [58], [59]] np fun H' s' => ?_⟩
      have hc : c ∈ [46, 63, 33, 44, 58, 59] := ha
      have hcc : ([[46], [63], [33], [44], [58], [59]] : List Tx).contains [c] = true := by
        simp only [List.mem_cons, List.not_mem_nil, or_false] at hc
        rcases hc with rfl | rfl | rfl | rfl | rfl | rfl <;> rfl
      rw [hcc]
      exact k _ (s1.trans s')
    | _ => exact Bool.noConfusion (show false = true from e2)
  simp only [tSeq, tAsg, tAnd, tOr, tNot, tTest, tB, tOp, tUn, tCB, tCons, tNil, tVar, tC, gName, rI0, rI, rU, rEq, rNe, rIxS, rIxL, rIxT, tRet, tRetN, tTup, tLst, tSl, tPart, tNoPart, rSlS, tIf, tNext, tDrop, tCall, tBM, tBM0, tAndV, tOrV, tNotV, tM0, tM1, gSub, rSetL, sFld, gCons_eq, gNil_eq, tCallS_eq, tDGet, sDPut, tMeth, tMake, tFld, tChain, tIsN, tNotN,
  List.set_cons_zero, List.set_cons_succ, exists_eq_left', exists_eq_left, exists_eq, V.int.injEq, V.str.injEq, V.bl.injEq, V.ref.injEq, List.cons.injEq, and_true, true_and, List.getElem?_cons_zero, List.getElem?_cons_succ, Option.some.injEq, List.append_nil, exists_and_left, cxOf_K, false_and, and_false, exists_false, false_or, or_false, exists_eq', exists_const, sg_eq, S_eq, S_toList, S_ne, tFor_eq, tLc_eq, iList_eq, iTup_eq, iRng1_eq, iStr_eq, decide_eq_true_eq, Bool.not_eq_true', decide_eq_false_iff_not, if_true, if_false, Bool.false_eq_true, reduceCtorEq, Bool.true_eq_false, decide_true, decide_false]
  refine if_pure (decide (kindT a = wJoin)) (fun R rr => ?_) (fun e3 => ?_) (fun e3 => ?_)
  · simp only [tSeq, tAsg, tAnd, tOr, tNot, tTest, tB, tOp, tUn, tCB, tCons, tNil, tVar, tC, gName, rI0, rI, rU, rEq, rNe, rIxS, rIxL, rIxT, tRet, tRetN, tTup, tLst, tSl, tPart, tNoPart, rSlS, tIf, tIfS, tNext, tDrop, tCall, tBM, tBM0, tAndV, tOrV, tNotV, tM0, tM1, gSub, rSetL, sFld, gCons_eq, gNil_eq, tCallS_eq, tDGet, sDPut, tMeth, tMake, tFld, tChain, tIsN, tNotN,
  List.set_cons_zero, List.set_cons_succ, exists_eq_left', exists_eq_left, exists_eq, V.int.injEq, V.str.injEq, V.bl.injEq, V.ref.injEq, List.cons.injEq, and_true, true_and, List.getElem?_cons_zero, List.getElem?_cons_succ, Option.some.injEq, List.append_nil, exists_and_left, cxOf_K, false_and, and_false, exists_false, false_or, or_false, exists_eq', exists_const, sg_eq, S_eq, S_toList, S_ne, tFor_eq, tLc_eq, iList_eq, iTup_eq, iRng1_eq, iStr_eq, decide_eq_true_eq, Bool.not_eq_true', decide_eq_false_iff_not, if_true, if_false, Bool.false_eq_true, reduceCtorEq, Bool.true_eq_false, decide_true, decide_false]
    refine ⟨_, hq1, _, at0 _ _, rfl, ite2 (fun h => ?_) (fun h => ?_)⟩
    · have h2 : kindT a = wJoin := str_inj.mp h
      rw [decide_eq_true h2] at rr
      cases a with
      | join t l r =>
        obtain ⟨q', e', hq2⟩ := dp4 hd1
        cases e'
        exact ⟨_, .inr hq2, rfl, rr⟩
      | _ => exact Bool.noConfusion (show false = true from decide_eq_true h2)
    · have h2 : ¬ kindT a = wJoin := fun z => h (str_inj.mpr z)
      rw [decide_eq_false h2] at rr
      exact rr
  · cases a with
    | join t l r =>
      obtain ⟨q', e', hq2⟩ := dp4 hd1
      cases e'
      simp only [tSeq, tAsg, tAnd, tOr, tNot, tTest, tB, tOp, tUn, tCB, tCons, tNil, tVar, tC, gName, rI0, rI, rU, rEq, rNe, rIxS, rIxL, rIxT, tRet, tRetN, tTup, tLst, tSl, tPart, tNoPart, rSlS, tIf, tNext, tDrop, tCall, tBM, tBM0, tAndV, tOrV, tNotV, tM0, tM1, gSub, rSetL, sFld, gCons_eq, gNil_eq, tCallS_eq, tDGet, sDPut, tMeth, tMake, tFld, tChain, tIsN, tNotN,
  List.set_cons_zero, List.set_cons_succ, exists_eq_left', exists_eq_left, exists_eq, V.int.injEq, V.str.injEq, V.bl.injEq, V.ref.injEq, List.cons.injEq, and_true, true_and, List.getElem?_cons_zero, List.getElem?_cons_succ, Option.some.injEq, List.append_nil, exists_and_left, cxOf_K, false_and, and_false, exists_false, false_or, or_false, exists_eq', exists_const, sg_eq, S_eq, S_toList, S_ne, tFor_eq, tLc_eq, iList_eq, iTup_eq, iRng1_eq, iStr_eq, decide_eq_true_eq, Bool.not_eq_true', decide_eq_false_iff_not, if_true, if_false, Bool.false_eq_true, reduceCtorEq, Bool.true_eq_false, decide_true, decide_false]
      refine ⟨q, _, rfl, hq2, fun z => absurd (show 2 = 0 from z.1) (by decide), fun _ => ?_⟩
      (intro p np; generalize hqp : upd H1 p _ = H2; obtain ⟨s2, f2⟩ := al_ np hqp; clear hqp)
      have ec : cutV [V.str (S wJoin), V.str (S t), V.bl l, V.bl r] (some 2) none = [V.bl l, V.bl r] := rfl
      rw [ec] at f2
      refine ⟨p, rfl, ⟨_, st_of f2⟩, fun L hL => ?_⟩
      refine comp_tup [V.bl l, V.bl r] (fun rest acc H' => Same H2 H' ∧ (∃ bs : List Bool, rest = bs.map V.bl) ∧ acc.length + rest.length = 2 ∧ ∀ v ∈ acc, v = .bl true) (by simp only [List.length_cons, List.length_nil]; decide) ⟨same_new hL, ⟨[l, r], rfl⟩, rfl, fun _ z => (nomatch z)⟩ upd_same (fun _ _ H' h => same_t h.1 (st_of f2)) ?_ ?_
      · rintro i x rest acc H3 hA hn hi ⟨s3, ⟨bs, hb⟩, hlen, hall⟩
        cases bs with
        | nil => cases hb
        | cons b bs =>
          cases hb
          simp only [wipe, List.map_cons, List.map_nil, List.set_cons_succ, List.set_cons_zero, tSeq, tAsg, tAnd, tOr, tNot, tTest, tB, tOp, tUn, tCB, tCons, tNil, tVar, tC, gName, rI0, rI, rU, rEq, rNe, rIxS, rIxL, rIxT, tRet, tRetN, tTup, tLst, tSl, tPart, tNoPart, rSlS, tIf, tIfS, tNext, tDrop, tCall, tBM, tBM0, tAndV, tOrV, tNotV, tM0, tM1, gSub, rSetL, sFld, gCons_eq, gNil_eq, tCallS_eq, tDGet, sDPut, tMeth, tMake, tFld, tChain, tIsN, tNotN,
  List.set_cons_zero, List.set_cons_succ, exists_eq_left', exists_eq_left, exists_eq, V.int.injEq, V.str.injEq, V.bl.injEq, V.ref.injEq, List.cons.injEq, and_true, true_and, List.getElem?_cons_zero, List.getElem?_cons_succ, Option.some.injEq, List.append_nil, exists_and_left, cxOf_K, false_and, and_false, exists_false, false_or, or_false, exists_eq', exists_const, sg_eq, S_eq, S_toList, S_ne, tFor_eq, tLc_eq, iList_eq, iTup_eq, iRng1_eq, iStr_eq, decide_eq_true_eq, Bool.not_eq_true', decide_eq_false_iff_not, if_true, if_false, Bool.false_eq_true, reduceCtorEq, Bool.true_eq_false, decide_true, decide_false]
          unfold tYes
          simp only [if_true]
          refine isi (.bl b) rfl (cput hA hn hi ⟨same_mut s3 hL, ⟨bs, rfl⟩, ?_, fun v hv => ?_⟩)
          · rw [List.length_cons] at hlen
            rw [List.length_append, List.length_singleton]
            omega
          · rcases List.mem_append.mp hv with hv | hv
            · exact hall v hv
            · exact List.mem_singleton.mp hv
      rintro acc H3 hA hn ⟨s3, _, hlen, hall⟩
      obtain ⟨v1, v2, rfl⟩ : ∃ v1 v2, acc = [v1, v2] := by
        match acc, hlen with
        | [v1, v2], _ => exact ⟨v1, v2, rfl⟩
      have hv1 := hall v1 List.mem_cons_self
      have hv2 := hall v2 (List.mem_cons_of_mem _ List.mem_cons_self)
      subst hv1 hv2
      have s13 := s2.trans s3
      have hq3 := same_t s13 hq2
      refine if_new false (fun R rr => ?_) (fun e => nomatch e) (fun _ H4 s4 => ?_)
      · simp only [tSeq, tAsg, tAnd, tOr, tNot, tTest, tB, tOp, tUn, tCB, tCons, tNil, tVar, tC, gName, rI0, rI, rU, rEq, rNe, rIxS, rIxL, rIxT, tRet, tRetN, tTup, tLst, tSl, tPart, tNoPart, rSlS, tIf, tIfS, tNext, tDrop, tCall, tBM, tBM0, tAndV, tOrV, tNotV, tM0, tM1, gSub, rSetL, sFld, gCons_eq, gNil_eq, tCallS_eq, tDGet, sDPut, tMeth, tMake, tFld, tChain, tIsN, tNotN,
  List.set_cons_zero, List.set_cons_succ, exists_eq_left', exists_eq_left, exists_eq, V.int.injEq, V.str.injEq, V.bl.injEq, V.ref.injEq, List.cons.injEq, and_true, true_and, List.getElem?_cons_zero, List.getElem?_cons_succ, Option.some.injEq, List.append_nil, exists_and_left, cxOf_K, false_and, and_false, exists_false, false_or, or_false, exists_eq', exists_const, sg_eq, S_eq, S_toList, S_ne, tFor_eq, tLc_eq, iList_eq, iTup_eq, iRng1_eq, iStr_eq, decide_eq_true_eq, Bool.not_eq_true', decide_eq_false_iff_not, if_true, if_false, Bool.false_eq_true, reduceCtorEq, Bool.true_eq_false, decide_true, decide_false]
        refine ⟨(size_le (by simp only [List.length_cons, List.length_nil]; decide)), ?_⟩
        (intro p4 np4; generalize hqp4 : upd H3 p4 _ = H4; obtain ⟨s4, f4⟩ := al_ np4 hqp4; clear hqp4)
        refine ⟨.list [.bool true, .bool true], .list [.bool true, .bool true], .lst (sq_of (s4 _ _ hA)) (.cons (.bl _) (.cons (.bl _) .nil)), .lst (sq_of f4) (.cons (.bl _) (.cons (.bl _) .nil)), rfl, rfl, ?_⟩
        have q4 := same_t s4 hq3
        refine ⟨false, by rw [show PyData.eqv (.list [.bool true, .bool true]) (.list [.bool true, .bool true]) = true by decide +kernel]; rfl, ?_⟩
        rw [if_neg (fun z => nomatch z)]
        refine ⟨_, q4, _, atI_nat (j := 2) rfl, l, rfl, ?_⟩
        have hlr : l = true ∨ r = true := ha.elim (fun h => h.2) fun h => .inl h.2.1
        cases l with
        | true =>
          rw [if_neg (fun z => nomatch z)]
          exact rr _ s4
        | false =>
          have hr1 : r = true := hlr.elim (fun z => nomatch z) id
          subst hr1
          rw [if_pos rfl]
          exact ⟨_, q4, _, atI_nat (j := 3) rfl, true, rfl, rr _ s4⟩
      simp only [tSeq, tAsg, tAnd, tOr, tNot, tTest, tB, tOp, tUn, tCB, tCons, tNil, tVar, tC, gName, rI0, rI, rU, rEq, rNe, rIxS, rIxL, rIxT, tRet, tRetN, tTup, tLst, tSl, tPart, tNoPart, rSlS, tIf, tIfS, tNext, tDrop, tCall, tBM, tBM0, tAndV, tOrV, tNotV, tM0, tM1, gSub, rSetL, sFld, gCons_eq, gNil_eq, tCallS_eq, tDGet, sDPut, tMeth, tMake, tFld, tChain, tIsN, tNotN,
  List.set_cons_zero, List.set_cons_succ, exists_eq_left', exists_eq_left, exists_eq, V.int.injEq, V.str.injEq, V.bl.injEq, V.ref.injEq, List.cons.injEq, and_true, true_and, List.getElem?_cons_zero, List.getElem?_cons_succ, Option.some.injEq, List.append_nil, exists_and_left, cxOf_K, false_and, and_false, exists_false, false_or, or_false, exists_eq', exists_const, sg_eq, S_eq, S_toList, S_ne, tFor_eq, tLc_eq, iList_eq, iTup_eq, iRng1_eq, iStr_eq, decide_eq_true_eq, Bool.not_eq_true', decide_eq_false_iff_not, if_true, if_false, Bool.false_eq_true, reduceCtorEq, Bool.true_eq_false, decide_true, decide_false]
      refine ⟨_, same_t s4 hq3, _, at1 _ _ _, t, rfl, ?_⟩
      rcases ha with ⟨ht, _⟩ | ⟨rfl, rfl, rfl⟩
      · exact .inl ⟨ht, fun H' s' => vT (k _ (((s1.trans s13).trans s4).trans s'))⟩
      · refine .inr ⟨rfl, vF ⟨(size_le (by simp only [List.length_cons, List.length_nil]; decide)), ?_⟩⟩
        (intro p5 np5; generalize hqp5 : upd H4 p5 _ = H5; obtain ⟨s5, f5⟩ := al_ np5 hqp5; clear hqp5)
        refine ⟨actD (.join [] true true), actD (.join [] true true), Dp.ext ((s13.trans s4).trans s5) hd1, .tup (st_of f5) (.cons (.str _) (.cons (.str _) (.cons (.bl true) (.cons (.bl true) .nil)))), by decide +kernel, by decide +kernel, ?_⟩
        rw [show PyData.eqv (actD (.join [] true true)) (actD (.join [] true true)) = true by decide +kernel]
        exact k _ (((s1.trans s13).trans s4).trans s5)
    | _ => exact Bool.noConfusion (show false = true from e3)
  obtain ⟨nm, hnm, hda⟩ : ∃ nm ∈ ([wGreat, wAll, wLast, wBack, wAgain] : List Tx), actD a = .tuple [dS nm] := by
    cases a with
    | great => exact ⟨wGreat, by decide, rfl⟩
    | all => exact ⟨wAll, by decide, rfl⟩
    | last => exact ⟨wLast, by decide, rfl⟩
    | back => exact ⟨wBack, by decide, rfl⟩
    | again => exact ⟨wAgain, by decide, rfl⟩
    | join t l r => exact Bool.noConfusion (show true = false from e3)
    | stop c => exact Bool.noConfusion (show true = false from e2)
    | word t => exact Bool.noConfusion (show true = false from e)
    | glue t => exact Bool.noConfusion (show true = false from e)
  simp only [tSeq, tAsg, tAnd, tOr, tNot, tTest, tB, tOp, tUn, tCB, tCons, tNil, tVar, tC, gName, rI0, rI, rU, rEq, rNe, rIxS, rIxL, rIxT, tRet, tRetN, tTup, tLst, tSl, tPart, tNoPart, rSlS, tIf, tIfS, tNext, tDrop, tCall, tBM, tBM0, tAndV, tOrV, tNotV, tM0, tM1, gSub, rSetL, sFld, gCons_eq, gNil_eq, tCallS_eq, tDGet, sDPut, tMeth, tMake, tFld, tChain, tIsN, tNotN,
  List.set_cons_zero, List.set_cons_succ, exists_eq_left', exists_eq_left, exists_eq, V.int.injEq, V.str.injEq, V.bl.injEq, V.ref.injEq, List.cons.injEq, and_true, true_and, List.getElem?_cons_zero, List.getElem?_cons_succ, Option.some.injEq, List.append_nil, exists_and_left, cxOf_K, false_and, and_false, exists_false, false_or, or_false, exists_eq', exists_const, sg_eq, S_eq, S_toList, S_ne, tFor_eq, tLc_eq, iList_eq, iTup_eq, iRng1_eq, iStr_eq, decide_eq_true_eq, Bool.not_eq_true', decide_eq_false_iff_not, if_true, if_false, Bool.false_eq_true, reduceCtorEq, Bool.true_eq_false, decide_true, decide_false]
  refine ⟨(size_le (by simp only [List.length_cons, List.length_nil]; decide)), ?_⟩
  (intro p1 np1; generalize hqp1 : upd H1 p1 _ = H2; obtain ⟨s2, f2⟩ := al_ np1 hqp1; clear hqp1)
  refine ⟨(size_le (by simp only [List.length_cons, List.length_nil]; decide)), ?_⟩
  (intro p2 np2; generalize hqp2 : upd H2 p2 _ = H3; obtain ⟨s3, f3⟩ := al_ np2 hqp2; clear hqp2)
  refine ⟨(size_le (by simp only [List.length_cons, List.length_nil]; decide)), ?_⟩
  (intro p3 np3; generalize hqp3 : upd H3 p3 _ = H4; obtain ⟨s4, f4⟩ := al_ np3 hqp3; clear hqp3)
  refine ⟨(size_le (by simp only [List.length_cons, List.length_nil]; decide)), ?_⟩
  (intro p4 np4; generalize hqp4 : upd H4 p4 _ = H5; obtain ⟨s5, f5⟩ := al_ np4 hqp4; clear hqp4)
  refine ⟨(size_le (by simp only [List.length_cons, List.length_nil]; decide)), ?_⟩
  (intro p5 np5; generalize hqp5 : upd H5 p5 _ = H6; obtain ⟨s6, f6⟩ := al_ np5 hqp5; clear hqp5)
  refine ⟨(size_le (by simp only [List.length_cons, List.length_nil]; decide)), ?_⟩
  (intro p6 np6; generalize hqp6 : upd H6 p6 _ = H7; obtain ⟨s7, f7⟩ := al_ np6 hqp6; clear hqp6)
  have s47 := (s5.trans s6).trans s7
  have s37 := s4.trans s47
  have s27 := s3.trans s37
  refine ⟨actD a, ([wGreat, wAll, wLast, wBack, wAgain] : List Tx).map fun n => .tuple [dS n], Dp.ext (s2.trans s27) hd1,
    .tup (st_of f7) (.cons (.tup (st_of (s27 _ _ f2)) (dp_strs [S wGreat])) (.cons (.tup (st_of (s37 _ _ f3)) (dp_strs [S wAll])) (.cons (.tup (st_of (s47 _ _ f4)) (dp_strs [S wLast])) (.cons (.tup (st_of ((s6.trans s7) _ _ f5)) (dp_strs [S wBack])) (.cons (.tup (st_of (s7 _ _ f6)) (dp_strs [S wAgain])) .nil))))), (act_ok ha).shaped (by decide), by decide +kernel, ?_⟩
  have hany : ((([wGreat, wAll, wLast, wBack, wAgain] : List Tx).map fun n => PyData.tuple [dS n]).any fun z => PyData.eqv z (actD a)) = true := by
    rw [hda]
    exact List.any_eq_true.mpr ⟨_, List.mem_map.mpr ⟨nm, hnm, rfl⟩, (eqv1 nm nm).trans (beq_self_eq_true nm)⟩
  rw [hany]
  exact k _ ((s1.trans s2).trans s27)
end
/-! ### the law of whole entries read -/
abbrev s_law : Stmt := (top 28)
theorem sc_law : FnScope ["_law_script", "_law_box", "_law_text", "_law_told", "e", "_law_kinds", "_law_alone", "_law_action_here"] ["_law_script"] (defScope s_law) := ⟨rfl, rfl, rfl, by decide +kernel, rfl, by decide +kernel, by decide +kernel⟩

def sp_law (K : PySem.W.Frag) : Sp := fun vs H Q _ => ∃ (a : Addr) (ns : List Int), vs = [.ref a] ∧ SqL K H a (ns.map V.int) ∧ ns.length ≤ 63 ∧ ∀ H', Q (.bl true) H'
theorem plain_not {a : Act} (h : plainA a) : lone a = false := by
  cases a <;> first | rfl | exact h.elim
section
variable {P : Program} {w : World} {K : PySem.W.Frag} {mg : Str → Option Value} {base : Heap}
theorem ok_law {f : Addr} {fd : FuncData} (F : FunS K "law" s_law f fd) (b_ValueError : mg "ValueError" = none) (b_isinstance : mg "isinstance" = none) (b_len : mg "len" = none) (b_tuple : mg "tuple" = none) (ex : ExF K mg) (c_l_begun : Cal P w K mg base CX0 1 "_law_begun" (sp_begun K)) (c_l_text_of : Cal P w K mg base CX0 6 "_law_text_of" sp_text_of) (c_read_entry : CalX P w K mg base 3 "read_entry" (sp_rentryX K)) (c_l_good : Cal P w K mg base CX0 2 "_law_good" (sp_good K)) (c_l_entry_text : Cal P w K mg base CX0 2 "_law_entry_text" (sp_etext K)) : FnOk P w K mg base CX0 9 f fd ["_law_script"] (sp_law K) := by
  refine F.ok sc_law (fun vs H Q E h => ?_) (fun cdv A outer s H vs Q E hr h => ?_)
  · obtain ⟨a, ns, rfl, _⟩ := h
    rfl
  obtain ⟨a, ns, rfl, hS, hn, k⟩ := h
  refine ⟨_, PSs.nox (pss_cons (ps_set (i := 1) sc_law.nd rfl (.inl rfl) (pe_c c_l_begun hr (by first | decide | omega) (by rfl) (pa_cons (pv 0) pa_nil)))
  (pss_cons (ps_set (i := 2) sc_law.nd rfl (.inl rfl) (pe_c c_l_text_of hr (by first | decide | omega) (by rfl) (pa_cons (pv 1) pa_nil)))
  (pss_cons (ps_set (i := 3) sc_law.nd rfl (.inl rfl) pe_non)
  (pss_cons (ps_try_as (i := 4) (c := .ref (He.ga K "ChordError")) (Wout := fun _ _ _ _ => False) rfl rfl sc_law.nd rfl rfl ⟨rfl, by decide, .inl ex.g_ChordError⟩ takes0
   (fun W pn xe tk _ => (pss_one (ps_set (i := 3) sc_law.nd rfl (.inl rfl) (pe_cs c_read_entry hr (by first | decide | omega) (by rfl) tk (pa_cons (pv 2) pa_nil)))))
   (fun a oe cls d pn hz hf => pss_and (q := cls = .ref (He.ga K "BadEntry") ∧ d = none) (fun hcd => (pss_cons (ps_set (i := 5) sc_law.nd rfl (.inl rfl) (pe_lst (pa_cons (pe_callB (isE_K (K := K) rfl ex.c_BadEntry (zc_of hcd hz) hf) (by rfl) b_isinstance (by decide +kernel) (pa_cons (pv 4) (pa_cons (pe_glob (v := .ref (He.ga K "BadEntry")) (by rfl) ex.g_BadEntry rfl) pa_nil))) (pa_cons (pe_callB (isE_K (K := K) rfl ex.c_BadEntry (zc_of hcd hz) hf) (by rfl) b_isinstance (by decide +kernel) (pa_cons (pv 4) (pa_cons (pe_glob (v := .ref (He.ga K "BadStroke")) (by rfl) ex.g_BadStroke rfl) pa_nil))) (pa_cons (pe_callB (isE_K (K := K) rfl ex.c_BadEntry (zc_of hcd hz) hf) (by rfl) b_isinstance (by decide +kernel) (pa_cons (pv 4) (pa_cons (pe_glob (v := .ref (He.ga K "BadBook")) (by rfl) ex.g_BadBook rfl) pa_nil))) pa_nil)))))
  (pss_one (ps_ret (pe_and (pe_cmpR (deepK (K := K) (op_eqD hr.units) rfl) (pv 5) (pe_lst (pa_cons pe_bl (pa_cons pe_bl (pa_cons pe_bl pa_nil)))) (nomark _)) (pe_one (pe_callB (isE_K (K := K) rfl ex.c_BadEntry (zc_of hcd hz) hf) (by rfl) b_isinstance (by decide +kernel) (pa_cons (pv 4) (pa_cons (pe_bltn (v := .ty "ValueError") (by rfl) b_ValueError (by decide +kernel) rfl) pa_nil)))))))))))
  (pss_cons (ps_if (PW.pt (pw_or (pt_not (pt_val (pe_callB call_isi (by rfl) b_isinstance (by decide +kernel) (pa_cons (pv 3) (pa_cons (pe_bltn (v := .ty "tuple") (by rfl) b_tuple (by decide +kernel) rfl) pa_nil))))) (pw_or (pt_cmpR op_lt (pe_callB call_len_seq (by rfl) b_len PySem.boot_len (pa_cons (pv 3) pa_nil)) pe_int (nomark _)) (pw_or1 (pt_cmpR op_gt (pe_callB call_len_seq (by rfl) b_len PySem.boot_len (pa_cons (pv 3) pa_nil)) pe_int (nomark _))))))
    (pss_one (ps_ret pe_bl))
    pss_nil)
  (pss_cons (ps_if (pt_cmpR (op_neD hr.units) (pe_lc (own := [("_law_action_here", 7)]) rfl sc_law.nd (pi_tup (pv 3)) (blkOk_by (N := ["_law_script", "_law_box", "_law_text", "_law_told", "e", "_law_kinds", "_law_alone", "_law_action_here"]) (sc := defScope s_law) (own := [("_law_action_here", 7)]) (by decide +kernel)) (fun _ _ _ _ _ => (pg_name (i := 7) sc_law.nd rfl (.inl rfl))) (fun _ _ _ _ _ => (pts_one (pt_not (pt_val (pe_c c_l_good hr (by first | decide | omega) (by rfl) (pa_cons (pv 7) pa_nil)))))) (fun _ _ _ _ _ => (pv 7))) (pe_lst pa_nil) (nomark _))
    (pss_one (ps_ret pe_bl))
    pss_nil)
  (pss_cons (ps_setLc (i := 6) (own := [("_law_action_here", 7)]) rfl sc_law.nd rfl rfl (sw_true rfl rfl rfl (by decide +kernel)) (pi_tup (pv 3)) (blkOk_by (N := ["_law_script", "_law_box", "_law_text", "_law_told", "e", "_law_kinds", "_law_alone", "_law_action_here"]) (sc := defScope s_law) (own := [("_law_action_here", 7)]) (by decide +kernel)) (fun _ _ _ _ _ => (pg_name (i := 7) sc_law.nd rfl (.inl rfl))) (fun _ _ _ _ _ => (pts_one (pt_cmpR (inK (K := K) op_in_seq rfl) (pe_ix (ixK_tup (K := K) rfl) (pv 7) pe_int (fun _ _ => rfl)) (pe_tup (pa_cons pe_str (pa_cons pe_str pa_nil))) (by rfl)))) (fun _ _ _ _ _ => (pv 7)))
  (pss_one (ps_ret (pe_and (pe_or (pe_cmpR (op_eqD hr.units) (pv 6) (pe_lst pa_nil) (nomark _)) (pe_one (pe_cmpR op_eq (pe_callB call_len_seq (by rfl) b_len PySem.boot_len (pa_cons (pv 3) pa_nil)) pe_int (nomark _)))) (pe_one (pe_cmpR op_eq (pe_c c_l_entry_text hr (by first | decide | omega) (by rfl) (pa_cons (pv 3) pa_nil)) (pv 2) (nomark _))))))))))))), ?_⟩
  simp only [tSeq, tAsg, tAnd, tOr, tNot, tTest, tB, tOp, tUn, tCB, tCons, tNil, tVar, tC, gName, rI0, rI, rU, rEq, rNe, rIxS, rIxL, rIxT, tRet, tRetN, tTup, tLst, tSl, tPart, tNoPart, rSlS, tIf, tNext, tDrop, tCall, tBM, tBM0, tAndV, tOrV, tNotV, tM0, tM1, gSub, rSetL, sFld, gCons_eq, gNil_eq, tCallS_eq, tDGet, sDPut, tMeth, tMake, tFld, tChain, tIsN, tNotN,
  List.set_cons_zero, List.set_cons_succ, exists_eq_left', exists_eq_left, exists_eq, V.int.injEq, V.str.injEq, V.bl.injEq, V.ref.injEq, List.cons.injEq, and_true, true_and, List.getElem?_cons_zero, List.getElem?_cons_succ, Option.some.injEq, List.append_nil, exists_and_left, cxOf_K, false_and, and_false, exists_false, false_or, or_false, exists_eq', exists_const, sg_eq, S_eq, S_toList, S_ne, tFor_eq, tLc_eq, iList_eq, iTup_eq, iRng1_eq, iStr_eq, decide_eq_true_eq, Bool.not_eq_true', decide_eq_false_iff_not, if_true, if_false, Bool.false_eq_true, reduceCtorEq, Bool.true_eq_false, decide_true, decide_false, lit_98_97_99_107, lit_97_103_97_105_110, start1_8]
  refine ⟨a, ns, rfl, hS, hn, fun b G H1 e1 B1 => ?_⟩
  refine text_of_ B1 fun t H2 ta tl B2 => ?_
  try simp only [tSeq, tAsg, tAnd, tOr, tNot, tTest, tB, tOp, tUn, tCB, tCons, tNil, tVar, tC, gName, rI0, rI, rU, rEq, rNe, rIxS, rIxL, rIxT, tRet, tRetN, tTup, tLst, tSl, tPart, tNoPart, rSlS, tIf, tNext, tDrop, tCall, tBM, tBM0, tAndV, tOrV, tNotV, tM0, tM1, gSub, rSetL, sFld, gCons_eq, gNil_eq, tCallS_eq, tDGet, sDPut, tMeth, tMake, tFld, tChain, tIsN, tNotN,
  List.set_cons_zero, List.set_cons_succ, exists_eq_left', exists_eq_left, exists_eq, V.int.injEq, V.str.injEq, V.bl.injEq, V.ref.injEq, List.cons.injEq, and_true, true_and, List.getElem?_cons_zero, List.getElem?_cons_succ, Option.some.injEq, List.append_nil, exists_and_left, cxOf_K, false_and, and_false, exists_false, false_or, or_false, exists_eq', exists_const, sg_eq, S_eq, S_toList, S_ne, tFor_eq, tLc_eq, iList_eq, iTup_eq, iRng1_eq, iStr_eq, decide_eq_true_eq, Bool.not_eq_true', decide_eq_false_iff_not, if_true, if_false, Bool.false_eq_true, reduceCtorEq, Bool.true_eq_false, decide_true, decide_false]
  refine ⟨t, rfl, ta, by omega, fun e v H3 he het s3 hv => ?_, fun H3 s3 => ?_⟩
  · obtain ⟨hen, h4, hok, hpl⟩ := he
    obtain ⟨q, xs, rfl, hq, hx⟩ := dp_tup hv
    have hxl := DpAll.len hx
    rw [List.length_map] at hxl
    have h1 : 1 ≤ e.length := by
      cases e with
      | nil => exact absurd rfl hen
      | cons a r => simp
    show tIfS _ _ _ _ _ _
    refine if_pure false (fun R rr => ?_) (fun e => nomatch e) (fun _ => ?_)
    · simp only [tSeq, tAsg, tAnd, tOr, tNot, tTest, tB, tOp, tUn, tCB, tCons, tNil, tVar, tC, gName, rI0, rI, rU, rEq, rNe, rIxS, rIxL, rIxT, tRet, tRetN, tTup, tLst, tSl, tPart, tNoPart, rSlS, tIf, tIfS, tNext, tDrop, tCall, tBM, tBM0, tAndV, tOrV, tNotV, tM0, tM1, gSub, rSetL, sFld, gCons_eq, gNil_eq, tCallS_eq, tDGet, sDPut, tMeth, tMake, tFld, tChain, tIsN, tNotN,
  List.set_cons_zero, List.set_cons_succ, exists_eq_left', exists_eq_left, exists_eq, V.int.injEq, V.str.injEq, V.bl.injEq, V.ref.injEq, List.cons.injEq, and_true, true_and, List.getElem?_cons_zero, List.getElem?_cons_succ, Option.some.injEq, List.append_nil, exists_and_left, cxOf_K, false_and, and_false, exists_false, false_or, or_false, exists_eq', exists_const, sg_eq, S_eq, S_toList, S_ne, tFor_eq, tLc_eq, iList_eq, iTup_eq, iRng1_eq, iStr_eq, decide_eq_true_eq, Bool.not_eq_true', decide_eq_false_iff_not, if_true, if_false, Bool.false_eq_true, reduceCtorEq, Bool.true_eq_false, decide_true, decide_false]
      refine isi hv rfl (nT ⟨_, .inr hq, ?_⟩)
      rw [if_neg (by omega)]
      refine ⟨_, .inr hq, ?_⟩
      rw [decide_eq_false (by omega)]
      exact rr
    try simp only [tSeq, tAsg, tAnd, tOr, tNot, tTest, tB, tOp, tUn, tCB, tCons, tNil, tVar, tC, gName, rI0, rI, rU, rEq, rNe, rIxS, rIxL, rIxT, tRet, tRetN, tTup, tLst, tSl, tPart, tNoPart, rSlS, tIf, tNext, tDrop, tCall, tBM, tBM0, tAndV, tOrV, tNotV, tM0, tM1, gSub, rSetL, sFld, gCons_eq, gNil_eq, tCallS_eq, tDGet, sDPut, tMeth, tMake, tFld, tChain, tIsN, tNotN,
  List.set_cons_zero, List.set_cons_succ, exists_eq_left', exists_eq_left, exists_eq, V.int.injEq, V.str.injEq, V.bl.injEq, V.ref.injEq, List.cons.injEq, and_true, true_and, List.getElem?_cons_zero, List.getElem?_cons_succ, Option.some.injEq, List.append_nil, exists_and_left, cxOf_K, false_and, and_false, exists_false, false_or, or_false, exists_eq', exists_const, sg_eq, S_eq, S_toList, S_ne, tFor_eq, tLc_eq, iList_eq, iTup_eq, iRng1_eq, iStr_eq, decide_eq_true_eq, Bool.not_eq_true', decide_eq_false_iff_not, if_true, if_false, Bool.false_eq_true, reduceCtorEq, Bool.true_eq_false, decide_true, decide_false]
    refine if_new false (fun R rr => ?_) (fun e => nomatch e) (fun _ H4 s4 => ?_)
    · simp only [tSeq, tAsg, tAnd, tOr, tNot, tTest, tB, tOp, tUn, tCB, tCons, tNil, tVar, tC, gName, rI0, rI, rU, rEq, rNe, rIxS, rIxL, rIxT, tRet, tRetN, tTup, tLst, tSl, tPart, tNoPart, rSlS, tIf, tIfS, tNext, tDrop, tCall, tBM, tBM0, tAndV, tOrV, tNotV, tM0, tM1, gSub, rSetL, sFld, gCons_eq, gNil_eq, tCallS_eq, tDGet, sDPut, tMeth, tMake, tFld, tChain, tIsN, tNotN,
  List.set_cons_zero, List.set_cons_succ, exists_eq_left', exists_eq_left, exists_eq, V.int.injEq, V.str.injEq, V.bl.injEq, V.ref.injEq, List.cons.injEq, and_true, true_and, List.getElem?_cons_zero, List.getElem?_cons_succ, Option.some.injEq, List.append_nil, exists_and_left, cxOf_K, false_and, and_false, exists_false, false_or, or_false, exists_eq', exists_const, sg_eq, S_eq, S_toList, S_ne, tFor_eq, tLc_eq, iList_eq, iTup_eq, iRng1_eq, iStr_eq, decide_eq_true_eq, Bool.not_eq_true', decide_eq_false_iff_not, if_true, if_false, Bool.false_eq_true, reduceCtorEq, Bool.true_eq_false, decide_true, decide_false]
      refine ⟨⟨_, hq⟩, fun L hL => ?_⟩
      refine comp_tup xs (fun rest acc H' => Same H3 H' ∧ acc = [] ∧ ∃ todo : List Act, (∀ a ∈ todo, actOk a) ∧ DpAll K H' rest (todo.map actD)) (by omega) ⟨same_new hL, rfl, e, hok, DpAll.ext (same_new hL) hx⟩ upd_same (fun _ _ H' h => same_t h.1 hq) ?_ ?_
      · rintro i x rest acc H5 hA hn hi ⟨s5, rfl, todo, ht, hd5⟩
        cases todo with
        | nil => cases hd5
        | cons a todo =>
          obtain ⟨v, r', ex', hv5, hr5⟩ := dps_cons hd5
          cases ex'
          simp only [wipe, List.map_cons, List.map_nil, List.set_cons_succ, List.set_cons_zero, tSeq, tAsg, tAnd, tOr, tNot, tTest, tB, tOp, tUn, tCB, tCons, tNil, tVar, tC, gName, rI0, rI, rU, rEq, rNe, rIxS, rIxL, rIxT, tRet, tRetN, tTup, tLst, tSl, tPart, tNoPart, rSlS, tIf, tIfS, tNext, tDrop, tCall, tBM, tBM0, tAndV, tOrV, tNotV, tM0, tM1, gSub, rSetL, sFld, gCons_eq, gNil_eq, tCallS_eq, tDGet, sDPut, tMeth, tMake, tFld, tChain, tIsN, tNotN,
  List.set_cons_zero, List.set_cons_succ, exists_eq_left', exists_eq_left, exists_eq, V.int.injEq, V.str.injEq, V.bl.injEq, V.ref.injEq, List.cons.injEq, and_true, true_and, List.getElem?_cons_zero, List.getElem?_cons_succ, Option.some.injEq, List.append_nil, exists_and_left, cxOf_K, false_and, and_false, exists_false, false_or, or_false, exists_eq', exists_const, sg_eq, S_eq, S_toList, S_ne, tFor_eq, tLc_eq, iList_eq, iTup_eq, iRng1_eq, iStr_eq, decide_eq_true_eq, Bool.not_eq_true', decide_eq_false_iff_not, if_true, if_false, Bool.false_eq_true, reduceCtorEq, Bool.true_eq_false, decide_true, decide_false]
          refine ⟨_, a, rfl, hv5, ht a List.mem_cons_self, fun H6 s6 => ⟨true, rfl, ?_⟩⟩
          rw [if_neg (fun z => nomatch z)]
          exact cskip (s6 _ _ hA) hn ⟨s5.trans s6, rfl, todo, fun b hb => ht b (List.mem_cons_of_mem _ hb), DpAll.ext s6 hr5⟩
      · rintro acc H5 hA hn ⟨s5, rfl, _⟩
        refine ⟨(size_le (by simp only [List.length_cons, List.length_nil]; decide)), ?_⟩
        (intro p np; generalize hqp : upd H5 p _ = H6; obtain ⟨s6, f6⟩ := al_ np hqp; clear hqp)
        refine ⟨.list [], .list [], .lst (sq_of (s6 _ _ hA)) .nil, .lst (sq_of f6) .nil, rfl, rfl, _, rfl, ?_⟩
        rw [eqv_nil]
        exact rr _ (s5.trans s6)
    simp only [tSeq, tAsg, tAnd, tOr, tNot, tTest, tB, tOp, tUn, tCB, tCons, tNil, tVar, tC, gName, rI0, rI, rU, rEq, rNe, rIxS, rIxL, rIxT, tRet, tRetN, tTup, tLst, tSl, tPart, tNoPart, rSlS, tIf, tIfS, tNext, tDrop, tCall, tBM, tBM0, tAndV, tOrV, tNotV, tM0, tM1, gSub, rSetL, sFld, gCons_eq, gNil_eq, tCallS_eq, tDGet, sDPut, tMeth, tMake, tFld, tChain, tIsN, tNotN,
  List.set_cons_zero, List.set_cons_succ, exists_eq_left', exists_eq_left, exists_eq, V.int.injEq, V.str.injEq, V.bl.injEq, V.ref.injEq, List.cons.injEq, and_true, true_and, List.getElem?_cons_zero, List.getElem?_cons_succ, Option.some.injEq, List.append_nil, exists_and_left, cxOf_K, false_and, and_false, exists_false, false_or, or_false, exists_eq', exists_const, sg_eq, S_eq, S_toList, S_ne, tFor_eq, tLc_eq, iList_eq, iTup_eq, iRng1_eq, iStr_eq, decide_eq_true_eq, Bool.not_eq_true', decide_eq_false_iff_not, if_true, if_false, Bool.false_eq_true, reduceCtorEq, Bool.true_eq_false, decide_true, decide_false]
    have hq4 := same_t s4 hq
    have hx4 := DpAll.ext s4 hx
    refine ⟨⟨_, hq4⟩, fun L hL => ?_⟩
    refine comp_tup xs (fun rest acc H' => Same H4 H' ∧ ∃ done todo : List Act, e = done ++ todo ∧ DpAll K H' rest (todo.map actD) ∧ DpAll K H' acc ((done.filter lone).map actD)) (by omega) ⟨same_new hL, [], e, rfl, DpAll.ext (same_new hL) hx4, .nil⟩ upd_same (fun _ _ H' h => same_t h.1 hq4) ?_ ?_
    · rintro i x rest acc H6 hA6 hn6 hi6 ⟨s6, done, todo, he6, hd6, hf6⟩
      cases todo with
      | nil => cases hd6
      | cons a todo =>
        obtain ⟨v, r', ex', hv6, hr6⟩ := dps_cons hd6
        cases ex'
        obtain ⟨q2, xs2, rfl, hq2⟩ := act_head hv6
        simp only [wipe, List.map_cons, List.map_nil, List.set_cons_succ, List.set_cons_zero, tSeq, tAsg, tAnd, tOr, tNot, tTest, tB, tOp, tUn, tCB, tCons, tNil, tVar, tC, gName, rI0, rI, rU, rEq, rNe, rIxS, rIxL, rIxT, tRet, tRetN, tTup, tLst, tSl, tPart, tNoPart, rSlS, tIf, tIfS, tNext, tDrop, tCall, tBM, tBM0, tAndV, tOrV, tNotV, tM0, tM1, gSub, rSetL, sFld, gCons_eq, gNil_eq, tCallS_eq, tDGet, sDPut, tMeth, tMake, tFld, tChain, tIsN, tNotN,
  List.set_cons_zero, List.set_cons_succ, exists_eq_left', exists_eq_left, exists_eq, V.int.injEq, V.str.injEq, V.bl.injEq, V.ref.injEq, List.cons.injEq, and_true, true_and, List.getElem?_cons_zero, List.getElem?_cons_succ, Option.some.injEq, List.append_nil, exists_and_left, cxOf_K, false_and, and_false, exists_false, false_or, or_false, exists_eq', exists_const, sg_eq, S_eq, S_toList, S_ne, tFor_eq, tLc_eq, iList_eq, iTup_eq, iRng1_eq, iStr_eq, decide_eq_true_eq, Bool.not_eq_true', decide_eq_false_iff_not, if_true, if_false, Bool.false_eq_true, reduceCtorEq, Bool.true_eq_false, decide_true, decide_false]
        refine ⟨_, hq2, _, at0 _ _, (size_le (by simp only [List.length_cons, List.length_nil]; decide)), fun p2 n2 => in_tup false (kindT a) [wBack, wAgain] n2 fun H7 s7 => ⟨_, rfl, ?_⟩⟩
        rw [lone_kind]
        simp only [Bool.false_eq_true, if_false]
        have hA7 := s7 _ _ hA6
        cases hlo : lone a with
        | false =>
          simp only [Bool.false_eq_true, if_false]
          exact cskip hA7 hn6 ⟨s6.trans s7, done ++ [a], todo, by rw [he6]; simp, DpAll.ext s7 hr6, by rw [List.filter_append]; simpa [hlo] using DpAll.ext s7 hf6⟩
        | true =>
          simp only [if_true]
          refine cput hA7 hn6 hi6 ⟨same_mut (s6.trans s7) hL, done ++ [a], todo, by rw [he6]; simp, DpAll.kt (KT.putL hA7) (ents_noL todo) (DpAll.ext s7 hr6), ?_⟩
          rw [List.filter_append, show [a].filter lone = [a] from by simp [hlo], List.map_append]
          exact DpAll.app (DpAll.kt ((KT.of s7).trans (KT.putL hA7)) (ents_noL _) hf6) (.cons (Dp.kt ((KT.of s7).trans (KT.putL hA7)) (act_noL a) hv6) .nil)
    rintro acc H6 hA6 hn6 ⟨s6, done, todo, he6, hd6, hf6⟩
    cases todo with
    | cons a todo => cases hd6
    | nil =>
    rw [List.append_nil] at he6
    subst he6
    try simp only [tSeq, tAsg, tAnd, tOr, tNot, tTest, tB, tOp, tUn, tCB, tCons, tNil, tVar, tC, gName, rI0, rI, rU, rEq, rNe, rIxS, rIxL, rIxT, tRet, tRetN, tTup, tLst, tSl, tPart, tNoPart, rSlS, tIf, tIfS, tNext, tDrop, tCall, tBM, tBM0, tAndV, tOrV, tNotV, tM0, tM1, gSub, rSetL, sFld, gCons_eq, gNil_eq, tCallS_eq, tDGet, sDPut, tMeth, tMake, tFld, tChain, tIsN, tNotN,
  List.set_cons_zero, List.set_cons_succ, exists_eq_left', exists_eq_left, exists_eq, V.int.injEq, V.str.injEq, V.bl.injEq, V.ref.injEq, List.cons.injEq, and_true, true_and, List.getElem?_cons_zero, List.getElem?_cons_succ, Option.some.injEq, List.append_nil, exists_and_left, cxOf_K, false_and, and_false, exists_false, false_or, or_false, exists_eq', exists_const, sg_eq, S_eq, S_toList, S_ne, tFor_eq, tLc_eq, iList_eq, iTup_eq, iRng1_eq, iStr_eq, decide_eq_true_eq, Bool.not_eq_true', decide_eq_false_iff_not, if_true, if_false, Bool.false_eq_true, reduceCtorEq, Bool.true_eq_false, decide_true, decide_false]
    refine ⟨(size_le (by simp only [List.length_cons, List.length_nil]; decide)), ?_⟩
    (intro p np; generalize hqp : upd H6 p _ = H7; obtain ⟨s7, f7⟩ := al_ np hqp; clear hqp)
    have s47 := s6.trans s7
    refine ⟨_, .list [], .lst (sq_of (s7 _ _ hA6)) (DpAll.ext s7 hf6), .lst (sq_of f7) .nil, ents_shaped (Nat.le_trans (List.length_filter_le _ _) (by omega)) (fun a ha => hok a (List.mem_filter.mp ha).1), rfl, ?_⟩
    rw [eqv_nil]
    have last : sp_etext K [V.ref q] H7 (fun x H1 => scal x (V.str (S t)) = true ∧ Q (V.bl (decide (x = V.str (S t)))) H1) E0 := by
      refine ⟨_, e, rfl, Dp.ext (s4.trans s47) hv, hok, h4, fun H8 s8 => ⟨rfl, ?_⟩⟩
      rw [het, decide_eq_true rfl]
      exact k _
    refine ⟨_, rfl, ite2 (fun _ => last) (fun z => ⟨_, .inr (same_t s47 hq4), rfl, ite2 (fun _ => last) (fun z2 => ?_)⟩)⟩
    have h2 : 2 ≤ e.length := by omega
    have hf : e.filter lone = [] := List.filter_eq_nil_iff.mpr fun a ha => by
      rw [plain_not (hpl h2 a ha)]
      decide
    rw [hf] at z
    exact absurd rfl z
  · refine ⟨true, ex.m_ChordError, fun _ a0 _ => ⟨⟨rfl, rfl⟩, _, rfl, _, _, _, rfl, fun u h => h, ex.q_BadEntry, _, rfl, _, _, _, rfl, fun u h => h, ex.q_BadStroke, _, rfl, _, _, _, rfl, fun u h => h, ex.q_BadBook, (size_le (by simp only [List.length_cons, List.length_nil]; decide)), ?_⟩, fun q => nomatch q⟩
    (intro p np; generalize hqp : upd H3 p _ = H4; obtain ⟨s4, f4⟩ := al_ np hqp; clear hqp)
    refine ⟨_, rfl, (size_le (by simp only [List.length_cons, List.length_nil]; decide)), ?_⟩
    (intro p2 np2; generalize hqp2 : upd H4 p2 _ = H5; obtain ⟨s5, f5⟩ := al_ np2 hqp2; clear hqp2)
    refine ⟨.list [.bool true, .bool false, .bool false], .list [.bool true, .bool false, .bool false], .lst (sq_of (s5 _ _ f4)) (.cons (.bl _) (.cons (.bl _) (.cons (.bl _) .nil))), .lst (sq_of f5) (.cons (.bl _) (.cons (.bl _) (.cons (.bl _) .nil))), rfl, rfl, ?_⟩
    rw [show PyData.eqv (.list [.bool true, .bool false, .bool false]) (.list [.bool true, .bool false, .bool false]) = true by decide +kernel]
    exact vT ⟨_, rfl, _, _, _, rfl, fun u h => h, ex.q_ValueError, k _⟩
end
def d_l_begun : He.DefD := ⟨("_law_begun", none), "_law_begun", "_law_begun", defArgs s_l_begun, defBody s_l_begun, defScope s_l_begun, [], []⟩
def d_l_take : He.DefD := ⟨("_law_take", none), "_law_take", "_law_take", defArgs s_l_take, defBody s_l_take, defScope s_l_take, [], []⟩
def d_l_word : He.DefD := ⟨("_law_word", none), "_law_word", "_law_word", defArgs s_l_word, defBody s_l_word, defScope s_l_word, [], []⟩
def d_l_ending : He.DefD := ⟨("_law_ending", none), "_law_ending", "_law_ending", defArgs s_l_ending, defBody s_l_ending, defScope s_l_ending, [], []⟩
def d_l_action : He.DefD := ⟨("_law_action", none), "_law_action", "_law_action", defArgs s_l_action, defBody s_l_action, defScope s_l_action, [], []⟩
def d_l_entry : He.DefD := ⟨("_law_entry", none), "_law_entry", "_law_entry", defArgs s_l_entry, defBody s_l_entry, defScope s_l_entry, [], []⟩
def d_l_action_text : He.DefD := ⟨("_law_action_text", none), "_law_action_text", "_law_action_text", defArgs s_l_action_text, defBody s_l_action_text, defScope s_l_action_text, [], []⟩
def d_l_entry_text : He.DefD := ⟨("_law_entry_text", none), "_law_entry_text", "_law_entry_text", defArgs s_l_entry_text, defBody s_l_entry_text, defScope s_l_entry_text, [], []⟩
def d_l_spoilt : He.DefD := ⟨("_law_spoilt", none), "_law_spoilt", "_law_spoilt", defArgs s_l_spoilt, defBody s_l_spoilt, defScope s_l_spoilt, [], []⟩
def d_l_text_of : He.DefD := ⟨("_law_text_of", none), "_law_text_of", "_law_text_of", defArgs s_l_text_of, defBody s_l_text_of, defScope s_l_text_of, [], []⟩
def d_need_word : He.DefD := ⟨("need_word", none), "need_word", "need_word", defArgs s_need_word, defBody s_need_word, defScope s_need_word, [], []⟩
def d_read_action : He.DefD := ⟨("read_action", none), "read_action", "read_action", defArgs s_read_action, defBody s_read_action, defScope s_read_action, [], []⟩
def d_read_entry : He.DefD := ⟨("read_entry", none), "read_entry", "read_entry", defArgs s_read_entry, defBody s_read_entry, defScope s_read_entry, [], []⟩
def d_l_good_word : He.DefD := ⟨("_law_good_word", none), "_law_good_word", "_law_good_word", defArgs s_l_good_word, defBody s_l_good_word, defScope s_l_good_word, [], []⟩
def d_l_good : He.DefD := ⟨("_law_good", none), "_law_good", "_law_good", defArgs s_l_good, defBody s_l_good, defScope s_l_good, [], []⟩
def d_law : He.DefD := ⟨("law", none), "law", "law", defArgs s_law, defBody s_law, defScope s_law, [], []⟩
def fn : List He.DefD := [d_l_begun, d_l_take, d_l_word, d_l_ending, d_l_action, d_l_entry, d_l_action_text, d_l_entry_text, d_l_spoilt, d_l_text_of, d_need_word, d_read_action, d_read_entry, d_l_good_word, d_l_good, d_law]
def fa : List He.Fa := [.glo "_law_begun", .glo "_law_take", .glo "_law_word", .glo "_law_ending", .glo "_law_action", .glo "_law_entry", .glo "_law_action_text", .glo "_law_entry_text", .glo "_law_spoilt", .glo "_law_text_of", .glo "need_word", .glo "read_action", .glo "read_entry", .glo "_law_good_word", .glo "_law_good", .glo "law", .free "ValueError", .free "bool", .free "int", .free "isinstance", .free "len", .free "list", .free "range", .free "str", .free "tuple", .glo "ChordError", .exm "BadEntry" "ChordError" true, .glo "BadStroke", .exm "BadEntry" "BadStroke" false, .glo "BadEntry", .exm "BadEntry" "BadEntry" true, .glo "BadBook", .exm "BadEntry" "BadBook" false, .exc "BadEntry", .glo "BARE", .int "MOST_ACTIONS" 4, .int "MOST_WORD" 16, .str "STOPS" (S [46, 63, 33, 44, 58, 59]), .str "WORD_SIGNS" (S [97, 98, 99, 100, 101, 102, 103, 104, 105, 106, 107, 108, 109, 110, 111, 112, 113, 114, 115, 116, 117, 118, 119, 120, 121, 122, 48, 49, 50, 51, 52, 53, 54, 55, 56, 57, 39, 45])]
abbrev R : PySem.W.OpenRow := PySem.W.OpenLaw.row PySem.Challenge.rw_chords_k04_whole_entries_read
abbrev tbs : List He.Tab := [((fun K => He.ga K "BARE"), ["{-|}", "{<}", "{*-|}", "{back}", "{again}"])]
def exb (K : PySem.W.Frag) : Bool := bareB K && exB K
abbrev hk : PySem.W.Hook := He.hookX 5 fa fn tbs [] exb
def ob (s : PySem.W.SharedT) : He.AlX := He.obsX 5 fa fn tbs [] exb (HandSHeadRun.getT s)
theorem ob_eq (s : PySem.W.SharedT) : ob s = hk.obs s.abs := He.obsX_eq (HandSHeadRun.getT_eq s)
/-! a key of a dict display at the top asks the World for one choice: the run by cases of it -/
def wf (b : Bool) (w : World) : World := { w with params := { w.params with followText := fun r => if r = "special-get-raises" then b else w.params.followText r } }
theorem wf_eq {b : Bool} {w : World} (h : w.params.followText "special-get-raises" = b) : wf b w = w := by
  have e : (fun r => if r = "special-get-raises" then b else w.params.followText r) = w.params.followText := by
    funext r
    split
    · rename_i e
      rw [e, h]
    · rfl
  unfold wf
  rw [e]
theorem runT (w : World) : HandSHeadRun.RunEq R (PySem.W.view R.prog [28]) hk ob 4000 ["ChordError", "BadStroke", "BadEntry", "BadBook", "need_word", "read_action", "read_entry", "_law_begun", "_law_take", "_law_alike", "_law_word", "_law_ending", "_law_action", "_law_entry", "_law_action_text", "_law_entry_text", "_law_spoilt", "_law_text_of", "_law_good_word", "_law_good", "WORD_SIGNS", "STOPS", "BARE", "MOST_WORD", "MOST_ACTIONS"] (wf true w) := by
  intro os
  kernel_rfl
theorem runF (w : World) : HandSHeadRun.RunEq R (PySem.W.view R.prog [28]) hk ob 4000 ["ChordError", "BadStroke", "BadEntry", "BadBook", "need_word", "read_action", "read_entry", "_law_begun", "_law_take", "_law_alike", "_law_word", "_law_ending", "_law_action", "_law_entry", "_law_action_text", "_law_entry_text", "_law_spoilt", "_law_text_of", "_law_good_word", "_law_good", "WORD_SIGNS", "STOPS", "BARE", "MOST_WORD", "MOST_ACTIONS"] (wf false w) := by
  intro os
  kernel_rfl
theorem run (w : World) : HandSHeadRun.RunEq R (PySem.W.view R.prog [28]) hk ob 4000 ["ChordError", "BadStroke", "BadEntry", "BadBook", "need_word", "read_action", "read_entry", "_law_begun", "_law_take", "_law_alike", "_law_word", "_law_ending", "_law_action", "_law_entry", "_law_action_text", "_law_entry_text", "_law_spoilt", "_law_text_of", "_law_good_word", "_law_good", "WORD_SIGNS", "STOPS", "BARE", "MOST_WORD", "MOST_ACTIONS"] w := by
  cases h : w.params.followText "special-get-raises" with
  | true =>
    have z := runT w
    rw [wf_eq h] at z
    exact z
  | false =>
    have z := runF w
    rw [wf_eq h] at z
    exact z
theorem facts {P : Program} {w : World} {K : PySem.W.Frag} {h : Heap} {mg : Str → Option Value} {f : Addr} (X : K.In h) (G : h.Ns mainGlobals mg) (hfa : mg ("law" : Str) = some (.ref f)) (c : He.SaysX fa fn tbs [] exb w h K) :
    ∃ fd : FuncData, (∀ (s : Shared) (v : Value), BindsTo s fd ⟨[v], []⟩ [("_law_script", v)]) ∧ ∀ base : Heap, K.In base → base.Ns mainGlobals mg → FnOk P w K mg base CX0 20 f fd ["_law_script"] (sp_law K) := by
  have e := hfa.symm.trans (He.glo_ok X G (c.t.d.fact 15 (f := .glo "law") rfl))
  cases e
  obtain ⟨x1, x2, x3, x4⟩ := He.exc_ok (c.t.d.fact 33 (f := .exc "BadEntry") rfl)
  have xb := (He.ba (show (bareB K && exB K) = true from c.more)).2
  have xb2 := (He.ba (show (excCB K (He.ga K "BadEntry") && _) = true from xb)).2
  simp only [Bool.and_eq_true, decide_eq_true_eq] at xb2
  obtain ⟨⟨⟨⟨q0, q1⟩, q2⟩, q3⟩, q4⟩ := xb2
  have ex : ExF K mg := { g_ChordError := He.glo_ok X G (c.t.d.fact 25 (f := .glo "ChordError") rfl), g_BadStroke := He.glo_ok X G (c.t.d.fact 27 (f := .glo "BadStroke") rfl), g_BadEntry := He.glo_ok X G (c.t.d.fact 29 (f := .glo "BadEntry") rfl), g_BadBook := He.glo_ok X G (c.t.d.fact 31 (f := .glo "BadBook") rfl), x_BadEntry := x1, k_BadEntry := x2, b_BadEntry := x3, t_BadEntry := x4, c_BadEntry := excCB_ok (He.ba (show (excCB K (He.ga K "BadEntry") && _) = true from xb)).1, m_ChordError := He.exm_ok (c.t.d.fact 26 (f := .exm "BadEntry" "ChordError" true) rfl), q_ChordError := q0, m_BadStroke := He.exm_ok (c.t.d.fact 28 (f := .exm "BadEntry" "BadStroke" false) rfl), q_BadStroke := q1, m_BadEntry := He.exm_ok (c.t.d.fact 30 (f := .exm "BadEntry" "BadEntry" true) rfl), q_BadEntry := q2, m_BadBook := He.exm_ok (c.t.d.fact 32 (f := .exm "BadEntry" "BadBook" false) rfl), q_BadBook := q3, q_ValueError := q4 }
  obtain ⟨fd_l_begun, F_l_begun⟩ : ∃ fd, FunS K "_law_begun" s_l_begun (He.ga K "_law_begun") fd := c.t.d.def_ 0 (d := d_l_begun) rfl
  have m_l_begun : mg "_law_begun" = some (.ref _) := He.glo_ok X G (c.t.d.fact 0 (f := .glo "_law_begun") rfl)
  have n_l_begun := FunD.bindsN (ps := ["_law_script"]) F_l_begun fun _ _ _ _ _ _ us hl => match us, hl with | [_], _ => rfl
  obtain ⟨fd_l_take, F_l_take⟩ : ∃ fd, FunS K "_law_take" s_l_take (He.ga K "_law_take") fd := c.t.d.def_ 1 (d := d_l_take) rfl
  have m_l_take : mg "_law_take" = some (.ref _) := He.glo_ok X G (c.t.d.fact 1 (f := .glo "_law_take") rfl)
  have n_l_take := FunD.bindsN (ps := ["_law_box", "_law_many"]) F_l_take fun _ _ _ _ _ _ us hl => match us, hl with | [_, _], _ => rfl
  obtain ⟨fd_l_word, F_l_word⟩ : ∃ fd, FunS K "_law_word" s_l_word (He.ga K "_law_word") fd := c.t.d.def_ 2 (d := d_l_word) rfl
  have m_l_word : mg "_law_word" = some (.ref _) := He.glo_ok X G (c.t.d.fact 2 (f := .glo "_law_word") rfl)
  have n_l_word := FunD.bindsN (ps := ["_law_box"]) F_l_word fun _ _ _ _ _ _ us hl => match us, hl with | [_], _ => rfl
  obtain ⟨fd_l_ending, F_l_ending⟩ : ∃ fd, FunS K "_law_ending" s_l_ending (He.ga K "_law_ending") fd := c.t.d.def_ 3 (d := d_l_ending) rfl
  have m_l_ending : mg "_law_ending" = some (.ref _) := He.glo_ok X G (c.t.d.fact 3 (f := .glo "_law_ending") rfl)
  have n_l_ending := FunD.bindsN (ps := ["_law_box"]) F_l_ending fun _ _ _ _ _ _ us hl => match us, hl with | [_], _ => rfl
  obtain ⟨fd_l_action, F_l_action⟩ : ∃ fd, FunS K "_law_action" s_l_action (He.ga K "_law_action") fd := c.t.d.def_ 4 (d := d_l_action) rfl
  have m_l_action : mg "_law_action" = some (.ref _) := He.glo_ok X G (c.t.d.fact 4 (f := .glo "_law_action") rfl)
  have n_l_action := FunD.bindsN (ps := ["_law_box"]) F_l_action fun _ _ _ _ _ _ us hl => match us, hl with | [_], _ => rfl
  obtain ⟨fd_l_entry, F_l_entry⟩ : ∃ fd, FunS K "_law_entry" s_l_entry (He.ga K "_law_entry") fd := c.t.d.def_ 5 (d := d_l_entry) rfl
  have m_l_entry : mg "_law_entry" = some (.ref _) := He.glo_ok X G (c.t.d.fact 5 (f := .glo "_law_entry") rfl)
  have n_l_entry := FunD.bindsN (ps := ["_law_box"]) F_l_entry fun _ _ _ _ _ _ us hl => match us, hl with | [_], _ => rfl
  obtain ⟨fd_l_action_text, F_l_action_text⟩ : ∃ fd, FunS K "_law_action_text" s_l_action_text (He.ga K "_law_action_text") fd := c.t.d.def_ 6 (d := d_l_action_text) rfl
  have m_l_action_text : mg "_law_action_text" = some (.ref _) := He.glo_ok X G (c.t.d.fact 6 (f := .glo "_law_action_text") rfl)
  have n_l_action_text := FunD.bindsN (ps := ["_law_action_here"]) F_l_action_text fun _ _ _ _ _ _ us hl => match us, hl with | [_], _ => rfl
  obtain ⟨fd_l_entry_text, F_l_entry_text⟩ : ∃ fd, FunS K "_law_entry_text" s_l_entry_text (He.ga K "_law_entry_text") fd := c.t.d.def_ 7 (d := d_l_entry_text) rfl
  have m_l_entry_text : mg "_law_entry_text" = some (.ref _) := He.glo_ok X G (c.t.d.fact 7 (f := .glo "_law_entry_text") rfl)
  have n_l_entry_text := FunD.bindsN (ps := ["_law_entry_here"]) F_l_entry_text fun _ _ _ _ _ _ us hl => match us, hl with | [_], _ => rfl
  obtain ⟨fd_l_spoilt, F_l_spoilt⟩ : ∃ fd, FunS K "_law_spoilt" s_l_spoilt (He.ga K "_law_spoilt") fd := c.t.d.def_ 8 (d := d_l_spoilt) rfl
  have m_l_spoilt : mg "_law_spoilt" = some (.ref _) := He.glo_ok X G (c.t.d.fact 8 (f := .glo "_law_spoilt") rfl)
  have n_l_spoilt := FunD.bindsN (ps := ["_law_box", "_law_text"]) F_l_spoilt fun _ _ _ _ _ _ us hl => match us, hl with | [_, _], _ => rfl
  obtain ⟨fd_l_text_of, F_l_text_of⟩ : ∃ fd, FunS K "_law_text_of" s_l_text_of (He.ga K "_law_text_of") fd := c.t.d.def_ 9 (d := d_l_text_of) rfl
  have m_l_text_of : mg "_law_text_of" = some (.ref _) := He.glo_ok X G (c.t.d.fact 9 (f := .glo "_law_text_of") rfl)
  have n_l_text_of := FunD.bindsN (ps := ["_law_box"]) F_l_text_of fun _ _ _ _ _ _ us hl => match us, hl with | [_], _ => rfl
  obtain ⟨fd_need_word, F_need_word⟩ : ∃ fd, FunS K "need_word" s_need_word (He.ga K "need_word") fd := c.t.d.def_ 10 (d := d_need_word) rfl
  have m_need_word : mg "need_word" = some (.ref _) := He.glo_ok X G (c.t.d.fact 10 (f := .glo "need_word") rfl)
  have n_need_word := FunD.bindsN (ps := ["text"]) F_need_word fun _ _ _ _ _ _ us hl => match us, hl with | [_], _ => rfl
  obtain ⟨fd_read_action, F_read_action⟩ : ∃ fd, FunS K "read_action" s_read_action (He.ga K "read_action") fd := c.t.d.def_ 11 (d := d_read_action) rfl
  have m_read_action : mg "read_action" = some (.ref _) := He.glo_ok X G (c.t.d.fact 11 (f := .glo "read_action") rfl)
  have n_read_action := FunD.bindsN (ps := ["text"]) F_read_action fun _ _ _ _ _ _ us hl => match us, hl with | [_], _ => rfl
  obtain ⟨fd_read_entry, F_read_entry⟩ : ∃ fd, FunS K "read_entry" s_read_entry (He.ga K "read_entry") fd := c.t.d.def_ 12 (d := d_read_entry) rfl
  have m_read_entry : mg "read_entry" = some (.ref _) := He.glo_ok X G (c.t.d.fact 12 (f := .glo "read_entry") rfl)
  have n_read_entry := FunD.bindsN (ps := ["text"]) F_read_entry fun _ _ _ _ _ _ us hl => match us, hl with | [_], _ => rfl
  obtain ⟨fd_l_good_word, F_l_good_word⟩ : ∃ fd, FunS K "_law_good_word" s_l_good_word (He.ga K "_law_good_word") fd := c.t.d.def_ 13 (d := d_l_good_word) rfl
  have m_l_good_word : mg "_law_good_word" = some (.ref _) := He.glo_ok X G (c.t.d.fact 13 (f := .glo "_law_good_word") rfl)
  have n_l_good_word := FunD.bindsN (ps := ["_law_word_here"]) F_l_good_word fun _ _ _ _ _ _ us hl => match us, hl with | [_], _ => rfl
  obtain ⟨fd_l_good, F_l_good⟩ : ∃ fd, FunS K "_law_good" s_l_good (He.ga K "_law_good") fd := c.t.d.def_ 14 (d := d_l_good) rfl
  have m_l_good : mg "_law_good" = some (.ref _) := He.glo_ok X G (c.t.d.fact 14 (f := .glo "_law_good") rfl)
  have n_l_good := FunD.bindsN (ps := ["_law_action_here"]) F_l_good fun _ _ _ _ _ _ us hl => match us, hl with | [_], _ => rfl
  obtain ⟨fd_law, F_law⟩ : ∃ fd, FunS K "law" s_law (He.ga K "law") fd := c.t.d.def_ 15 (d := d_law) rfl
  have n_law := FunD.bindsA (ps := ["_law_script"]) F_law fun _ _ _ _ _ _ us hl => match us, hl with | [_], _ => rfl
  have b_ValueError : mg "ValueError" = none := He.free_ok X G (c.t.d.fact 16 (f := .free "ValueError") rfl)
  have b_bool : mg "bool" = none := He.free_ok X G (c.t.d.fact 17 (f := .free "bool") rfl)
  have b_int : mg "int" = none := He.free_ok X G (c.t.d.fact 18 (f := .free "int") rfl)
  have b_isinstance : mg "isinstance" = none := He.free_ok X G (c.t.d.fact 19 (f := .free "isinstance") rfl)
  have b_len : mg "len" = none := He.free_ok X G (c.t.d.fact 20 (f := .free "len") rfl)
  have b_list : mg "list" = none := He.free_ok X G (c.t.d.fact 21 (f := .free "list") rfl)
  have b_range : mg "range" = none := He.free_ok X G (c.t.d.fact 22 (f := .free "range") rfl)
  have b_str : mg "str" = none := He.free_ok X G (c.t.d.fact 23 (f := .free "str") rfl)
  have b_tuple : mg "tuple" = none := He.free_ok X G (c.t.d.fact 24 (f := .free "tuple") rfl)
  obtain ⟨es_B, n_B, kd⟩ := c.t.tab 0 rfl
  have B_BARE : BareF K w es_B n_B := bareB_ok kd (He.ba (show (bareB K && exB K) = true from c.more)).1
  have g_BARE : ∃ u, mg "BARE" = some u ∧ RelV (.ref (He.ga K "BARE")) u := ⟨_, He.glo_ok X G (c.t.d.fact 34 (f := .glo "BARE") rfl), rfl⟩
  have g_MOST_ACTIONS : ∃ u, mg "MOST_ACTIONS" = some u ∧ RelV (.int 4) u := by
    obtain ⟨t, e⟩ := He.int_ok X G (c.t.d.fact 35 (f := .int "MOST_ACTIONS" 4) rfl)
    exact ⟨_, e, _, rfl⟩
  have g_MOST_WORD : ∃ u, mg "MOST_WORD" = some u ∧ RelV (.int 16) u := by
    obtain ⟨t, e⟩ := He.int_ok X G (c.t.d.fact 36 (f := .int "MOST_WORD" 16) rfl)
    exact ⟨_, e, _, rfl⟩
  have g_STOPS : ∃ u, mg "STOPS" = some u ∧ RelV (.str (S [46, 63, 33, 44, 58, 59])) u := by
    obtain ⟨t, e⟩ := He.str_ok X G (c.t.d.fact 37 (f := .str "STOPS" (S [46, 63, 33, 44, 58, 59])) rfl)
    exact ⟨_, e, _, rfl⟩
  have g_WORD_SIGNS : ∃ u, mg "WORD_SIGNS" = some u ∧ RelV (.str (S [97, 98, 99, 100, 101, 102, 103, 104, 105, 106, 107, 108, 109, 110, 111, 112, 113, 114, 115, 116, 117, 118, 119, 120, 121, 122, 48, 49, 50, 51, 52, 53, 54, 55, 56, 57, 39, 45])) u := by
    obtain ⟨t, e⟩ := He.str_ok X G (c.t.d.fact 38 (f := .str "WORD_SIGNS" (S [97, 98, 99, 100, 101, 102, 103, 104, 105, 106, 107, 108, 109, 110, 111, 112, 113, 114, 115, 116, 117, 118, 119, 120, 121, 122, 48, 49, 50, 51, 52, 53, 54, 55, 56, 57, 39, 45])) rfl)
    exact ⟨_, e, _, rfl⟩
  refine ⟨fd_law, fun s v => n_law s [v] rfl, fun base _ _ => ?_⟩
  have c_l_begun : Cal P w K mg base CX0 1 "_law_begun" (sp_begun K) := cal_of F_l_begun (ok_begun F_l_begun (b_int := b_int) (b_len := b_len) (b_list := b_list)) m_l_begun n_l_begun
  have c_l_take : Cal P w K mg base CX0 1 "_law_take" sp_take := cal_of F_l_take (ok_take F_l_take ) m_l_take n_l_take
  have c_l_word : Cal P w K mg base CX0 2 "_law_word" sp_word := cal_of F_l_word (ok_word F_l_word (b_len := b_len) (b_range := b_range) (c_l_take := c_l_take)) m_l_word n_l_word
  have c_l_ending : Cal P w K mg base CX0 3 "_law_ending" sp_ending := cal_of F_l_ending (ok_ending F_l_ending (b_int := b_int) (c_l_take := c_l_take) (c_l_word := c_l_word)) m_l_ending n_l_ending
  have c_l_action : Cal P w K mg base CX0 4 "_law_action" (sp_action K) := cal_of F_l_action (ok_action F_l_action (c_l_take := c_l_take) (c_l_word := c_l_word) (c_l_ending := c_l_ending)) m_l_action n_l_action
  have c_l_entry : Cal P w K mg base CX0 5 "_law_entry" (sp_entry K) := cal_of F_l_entry (ok_entry F_l_entry (b_range := b_range) (b_tuple := b_tuple) (c_l_take := c_l_take) (c_l_action := c_l_action)) m_l_entry n_l_entry
  have c_l_action_text : Cal P w K mg base CX0 1 "_law_action_text" (sp_atext K) := cal_of F_l_action_text (ok_latext F_l_action_text (b_int := b_int)) m_l_action_text n_l_action_text
  have c_l_entry_text : Cal P w K mg base CX0 2 "_law_entry_text" (sp_etext K) := cal_of F_l_entry_text (ok_letext F_l_entry_text (c_l_action_text := c_l_action_text)) m_l_entry_text n_l_entry_text
  have c_l_spoilt : Cal P w K mg base CX0 2 "_law_spoilt" sp_spoilt := cal_of F_l_spoilt (ok_spoilt F_l_spoilt (b_len := b_len) (b_range := b_range) (c_l_take := c_l_take)) m_l_spoilt n_l_spoilt
  have c_l_text_of : Cal P w K mg base CX0 6 "_law_text_of" sp_text_of := cal_of F_l_text_of (ok_text_of F_l_text_of (b_range := b_range) (c_l_take := c_l_take) (c_l_entry := c_l_entry) (c_l_entry_text := c_l_entry_text) (c_l_spoilt := c_l_spoilt)) m_l_text_of n_l_text_of
  have c_need_word : CalX P w K mg base 1 "need_word" (sp_nwordX K) := calX_of F_need_word (ok_nwordX F_need_word (ex := ex) (b_len := b_len) (g_MOST_WORD := g_MOST_WORD) (g_WORD_SIGNS := g_WORD_SIGNS)) m_need_word n_need_word
  have c_read_action : CalX P w K mg base 2 "read_action" (sp_ractionX K) := calX_of F_read_action (ok_ractionX F_read_action (ex := ex) (b_int := b_int) (b_len := b_len) (c_need_word := c_need_word) (g_BARE := g_BARE) (B_BARE := B_BARE) (g_STOPS := g_STOPS)) m_read_action n_read_action
  have c_read_entry : CalX P w K mg base 3 "read_entry" (sp_rentryX K) := calX_of F_read_entry (ok_rentryX F_read_entry (ex := ex) (b_len := b_len) (b_tuple := b_tuple) (c_read_action := c_read_action) (g_MOST_ACTIONS := g_MOST_ACTIONS)) m_read_entry n_read_entry
  have c_l_good_word : Cal P w K mg base CX0 1 "_law_good_word" sp_gword := cal_of F_l_good_word (ok_gword F_l_good_word (b_isinstance := b_isinstance) (b_len := b_len) (b_str := b_str)) m_l_good_word n_l_good_word
  have c_l_good : Cal P w K mg base CX0 2 "_law_good" (sp_good K) := cal_of F_l_good (ok_good F_l_good (b_bool := b_bool) (b_isinstance := b_isinstance) (b_len := b_len) (b_str := b_str) (b_tuple := b_tuple) (c_l_good_word := c_l_good_word)) m_l_good n_l_good
  exact FnOk.mono (ok_law F_law (ex := ex) (b_ValueError := b_ValueError) (b_isinstance := b_isinstance) (b_len := b_len) (b_tuple := b_tuple) (c_l_begun := c_l_begun) (c_l_text_of := c_l_text_of) (c_read_entry := c_read_entry) (c_l_good := c_l_good) (c_l_entry_text := c_l_entry_text)) (by decide)
end Ch
open PySem PySem.W PySem.Calls PyProof.Rows
set_option maxHeartbeats 0 in
theorem PySem.Challenge.cw_chords_k04_whole_entries_read_holds : PySem.Challenge.rw_chords_k04_whole_entries_read.Holds := by
  w_on; o_law
  refine HandSHeadRun.head_any (r := OpenLaw.row PySem.Challenge.rw_chords_k04_whole_entries_read) (q := view (OpenLaw.row PySem.Challenge.rw_chords_k04_whole_entries_read).prog [28]) (H := Ch.hk) (ob := Ch.ob) (M := 4000) (loose := ["ChordError", "BadStroke", "BadEntry", "BadBook", "need_word", "read_action", "read_entry", "_law_begun", "_law_take", "_law_alike", "_law_word", "_law_ending", "_law_action", "_law_entry", "_law_action_text", "_law_entry_text", "_law_spoilt", "_law_text_of", "_law_good_word", "_law_good", "WORD_SIGNS", "STOPS", "BARE", "MOST_WORD", "MOST_ACTIONS"]) (d := HandSHeadRun.topDef (OpenLaw.row PySem.Challenge.rw_chords_k04_whole_entries_read).prog 28) (kwd := []) Ch.ob_eq
    (by kernel_rfl) (fun s => by kernel_rfl) Ch.run (by kernel_rfl) (by kernel_rfl) (by kernel_rfl) (by rfl) (by first | assumption | decide +kernel) (by decide +kernel) ⟨rfl, rfl, rfl, rfl, rfl, by decide +kernel⟩ ?hw ?hc
  case hw => w_witness2
  case hc =>
    refine L2.walk_ofE (l := PySem.Challenge.rw_chords_k04_whole_entries_read) (n := 63) (k := 20) (x := "_law_script") (CX := L2.CX0) rfl (by decide) (by kernel_rfl) ⟨rfl, by decide, by decide⟩ ?F (fun _ _ _ _ z => z)
    intro w mg fa h Y G hmg0
    obtain ⟨K, KX, c⟩ := Y
    have hmg : mg ("law" : PySem.Str) = some (.ref fa) := by
      have e : (HandSHeadRun.topDef (OpenLaw.row PySem.Challenge.rw_chords_k04_whole_entries_read).prog 28).name = ("law" : PySem.Str) := by kernel_rfl
      rw [← e]
      exact hmg0
    obtain ⟨fd, hb, hF⟩ := Ch.facts (P := (PySem.Challenge.rw_chords_k04_whole_entries_read).prog) (w := w) KX G hmg c
    exact ⟨K, fd, Ch.sp_law K, KX, hb, fun H a ns hl _ hS => ⟨a, ns, rfl, hS, hl, fun _ => rfl⟩, hF⟩
#print axioms PySem.Challenge.cw_chords_k04_whole_entries_read_holds
