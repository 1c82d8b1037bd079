import PyProof.Rows.All
import Wide.All
import OpenK.AllK
import Wide.FinOn
import HandS.ForMost
import HandS.TupAny
import HandS.IsInst
import HandS.Flow
import HandS.Style
import HandS.Rev
import HandS.Zip
import HandS.Conv
import HandS.WordsList
import HandS.EndBits
import HandS.TupMul
import HandS.RaiseMore
import KE.GoesEnum
import HandS.Star
import HandS.Deep
import Lean
import KE.KStateDown
import HandS.Defaults
import HandS.Head0
import HandS.Head1
import HandS.Head2
import HandS.HeadHook1
import HandS.HeadHook2
import PySem.Challenge.RW_homedoings_k05_flags_conditions_first_ru
set_option Elab.async false
set_option linter.all false
set_option maxRecDepth 100000
set_option maxHeartbeats 4000000
namespace DL
open PySem PySem.Spec PyProof.Rows L2
/-! ### texts of right signs -/
abbrev sok (x : Str) : Prop := PyData.strOk x = true
theorem sok_iff {x : Str} : sok x ↔ ∀ c ∈ x.cps.toList, c < 0x110000 := by
  unfold sok PyData.strOk
  rw [Array.all_eq_true']
  constructor
  · intro h c hc
    simpa using h c (by simpa using hc)
  · intro h c hc
    simpa using h c (by simpa using hc)
theorem sok_of (s : String) : sok (Str.ofString s) := by
  rw [sok_iff, Str.ofString_eq_toList]
  intro c hc
  simp only [List.mem_map] at hc
  obtain ⟨d, _, rfl⟩ := hc
  have := d.valid
  show d.val.toNat < _
  rcases this with h | ⟨_, h⟩
  · exact Nat.lt_trans h (by decide)
  · exact h
theorem cps_append (x y : Str) : (x ++ y).cps.toList = x.cps.toList ++ y.cps.toList := by
  show (x.cps ++ y.cps).toList = _
  simp
theorem sok_append {x y : Str} (h : sok x) (g : sok y) : sok (x ++ y) := by
  rw [sok_iff] at *
  intro c hc
  rw [cps_append] at hc
  rcases List.mem_append.mp hc with q | q
  · exact h c q
  · exact g c q
theorem sok_sub {x : Str} {l : List Nat} (h : sok x) (g : ∀ c ∈ l, c ∈ x.cps.toList) : sok ⟨l.toArray⟩ := by
  rw [sok_iff] at *
  intro c hc
  exact h c (g c (by simpa using hc))
theorem sok_one {x : Str} {c : Nat} (h : sok x) (g : c ∈ x.cps.toList) : sok ⟨#[c]⟩ := by
  rw [sok_iff] at *
  intro d hd
  have : d = c := by simpa using hd
  subst this
  exact h d g
theorem sok_cut {x : Str} {lo hi : Option Int} (h : sok x) : sok (cutS x lo hi) := sok_sub h fun c hc => List.mem_of_mem_drop (List.mem_of_mem_take hc)
theorem sok_join {s : Str} (hs : sok s) : ∀ {ts : List Str}, (∀ t ∈ ts, sok t) → sok (Str.join s ts)
  | [], _ => sok_of ""
  | [x], h => h x (by simp)
  | x :: y :: r, h => sok_append (sok_append (h x (by simp)) hs) (sok_join hs fun t ht => h t (List.mem_cons_of_mem _ ht))
theorem sok_from : ∀ {ts : List Str} {k : Nat} {acc : Str}, sok acc → (∀ t ∈ ts, sok t) → sok (textFrom k acc ts)
  | [], _, _, h, _ => h
  | t :: r, k, acc, h, g => by
    show sok (textFrom (k + 1) (acc ++ (if k > 0 then ", " else "" : String) ++ t) r)
    exact sok_from (ts := r) (sok_append (sok_append h (sok_of _)) (g t (by simp))) fun t ht => g t (List.mem_cons_of_mem _ ht)
theorem digits_ok (n : Nat) : ∀ c ∈ (Nat.toDigits 16 n).map Char.toNat, c < 0x110000 := by
  intro c hc
  obtain ⟨d, _, rfl⟩ := List.mem_map.mp hc
  have := d.valid
  show d.val.toNat < _
  rcases this with h | ⟨_, h⟩
  · exact Nat.lt_trans h (by decide)
  · exact h
theorem reprChar_ok {q c : Nat} (hc : c < 0x110000) : ∀ d ∈ Builtin.Str.reprChar q c, d < 0x110000 := by
  intro d hd
  have hx : ∀ w : Nat, ∀ d ∈ (List.replicate (w - ((Nat.toDigits 16 c).map Char.toNat).length) 48 ++ (Nat.toDigits 16 c).map Char.toNat), d < 0x110000 := fun w d h => by
    rcases List.mem_append.mp h with h | h
    · rw [(List.mem_replicate.mp h).2]; decide
    · exact digits_ok c d h
  unfold Builtin.Str.reprChar at hd
  dsimp only at hd
  split at hd
  · rcases List.mem_cons.mp hd with h | h
    · omega
    · have := List.mem_singleton.mp h; omega
  · split at hd
    · simp at hd; omega
    · split at hd
      · simp at hd; omega
      · split at hd
        · simp at hd; omega
        · split at hd
          · have := List.mem_singleton.mp hd; omega
          · split at hd
            · rcases List.mem_append.mp hd with h | h
              · simp at h; omega
              · exact hx 2 d h
            · split at hd
              · rcases List.mem_append.mp hd with h | h
                · simp at h; omega
                · exact hx 4 d h
              · rcases List.mem_append.mp hd with h | h
                · simp at h; omega
                · exact hx 8 d h
theorem quote_ok (x : Str) : reprQuote x < 0x110000 := by
  unfold reprQuote
  split <;> decide
theorem reprFold_ok (q : Nat) : ∀ (l : List Nat) (acc : Array Nat), (∀ c ∈ l, c < 0x110000) → (∀ c ∈ acc.toList, c < 0x110000) → ∀ c ∈ (l.foldl (fun out c => out ++ (Builtin.Str.reprChar q c).toArray) acc).toList, c < 0x110000
  | [], _, _, g => g
  | x :: l, acc, h, g => by
    rw [List.foldl_cons]
    refine reprFold_ok q l _ (fun c hc => h c (List.mem_cons_of_mem _ hc)) fun c hc => ?_
    have : c ∈ acc.toList ++ Builtin.Str.reprChar q x := by simpa using hc
    rcases List.mem_append.mp this with z | z
    · exact g c z
    · exact reprChar_ok (h x (by simp)) c z
theorem sok_repr {x : Str} (h : sok x) : sok (reprText x) := by
  rw [sok_iff] at *
  intro c hc
  unfold reprText at hc
  have : c ∈ (x.cps.toList.foldl (fun out c => out ++ (Builtin.Str.reprChar (reprQuote x) c).toArray) #[reprQuote x]).toList ++ [reprQuote x] := by
    rw [Array.foldl_toList]
    simpa using hc
  rcases List.mem_append.mp this with z | z
  · exact reprFold_ok _ _ _ h (fun c hc => by
      have : c = reprQuote x := by simpa using hc
      rw [this]; exact quote_ok x) c z
  · rw [List.mem_singleton.mp z]; exact quote_ok x
mutual
theorem sok_shown : ∀ d : PyData, d.canLay0 = true → sok d.shown
  | .none, _ => by rw [PyData.shown_none]; exact sok_of _
  | .bool b, _ => by rw [PyData.shown_bool]; split <;> exact sok_of _
  | .int i, _ => by rw [PyData.shown_int]; exact sok_of _
  | .str x, h => by
    rw [PyData.shown_str]
    exact sok_repr (by simpa [PyData.canLay0] using h)
  | .list xs, h => by
    simp only [PyData.shown]
    exact sok_append (sok_from (sok_of _) (sok_shownAll xs (by simpa [PyData.canLay0] using h))) (sok_of _)
  | .tuple xs, h => by
    simp only [PyData.shown]
    exact sok_append (sok_append (sok_of _) (sok_join (sok_of _) (sok_shownAll xs (by simpa [PyData.canLay0] using h)))) (by split <;> exact sok_of _)
  | .dict _, h => by simp [PyData.canLay0] at h
theorem sok_shownAll : ∀ ds : List PyData, PyData.canLayAll0 ds = true → ∀ t ∈ PyData.shownAll ds, sok t
  | [], _ => fun t h => by simp [PyData.shownAll] at h
  | d :: ds, h => fun t ht => by
    have h' : d.canLay0 = true ∧ PyData.canLayAll0 ds = true := by simpa [PyData.canLayAll0] using h
    simp only [PyData.shownAll] at ht
    rcases List.mem_cons.mp ht with z | z
    · rw [z]; exact sok_shown d h'.1
    · exact sok_shownAll ds h'.2 t z
end
end DL

set_option Elab.async false
set_option linter.all false
set_option maxRecDepth 100000
set_option maxHeartbeats 4000000
namespace DL
open PySem PySem.Spec PyProof.Rows L2
abbrev D := PyData
/-! ### deep data over the abstract heap -/
mutual
inductive Dq (K : PySem.W.Frag) (H : Hp) : V → D → Prop
  | non : Dq K H .non .none
  | bl (b : Bool) : Dq K H (.bl b) (.bool b)
  | int (i : Int) : Dq K H (.int i) (.int i)
  | str (x : Str) (h : sok x) : Dq K H (.str x) (.str x)
  | lst {a : Addr} {xs : List V} {ds : List D} : H a = some (.lst xs) → DqAll K H xs ds → Dq K H (.ref a) (.list ds)
  | tup {a : Addr} {xs : List V} {ds : List D} : SqT K H a xs → DqAll K H xs ds → Dq K H (.ref a) (.tuple ds)
inductive DqAll (K : PySem.W.Frag) (H : Hp) : List V → List D → Prop
  | nil : DqAll K H [] []
  | cons {v : V} {vs : List V} {d : D} {ds : List D} : Dq K H v d → DqAll K H vs ds → DqAll K H (v :: vs) (d :: ds)
end
mutual
/-- no list, no dict within -/
def lf : D → Bool
  | .none | .bool _ | .int _ | .str _ => true
  | .tuple xs => lfAll xs
  | .list _ | .dict _ => false
def lfAll : List D → Bool
  | [] => true
  | x :: xs => lf x && lfAll xs
end
theorem lf_ints : ∀ ns : List Int, lfAll (ns.map .int) = true
  | [] => rfl
  | _ :: ns => by simp only [List.map_cons, lfAll, lf, Bool.true_and]; exact lf_ints ns
theorem lf_all {xs : List D} : lfAll xs = true ↔ ∀ x ∈ xs, lf x = true := by
  induction xs with
  | nil => simp [lfAll]
  | cons x xs ih => simp [lfAll, ih]
theorem lf_append {xs ys : List D} : lfAll (xs ++ ys) = (lfAll xs && lfAll ys) := by
  induction xs with
  | nil => simp [lfAll]
  | cons x xs ih => simp [lfAll, ih, Bool.and_assoc]

theorem Same.sqT {K : PySem.W.Frag} {H H' : Hp} {a : Addr} {xs : List V} (e : Same H H') (h : SqT K H a xs) : SqT K H' a xs := by
  rcases h with (h | ⟨o, h⟩) | h
  · exact .inl (.inl (e _ _ h))
  · exact .inl (.inr ⟨o, e _ _ h⟩)
  · exact .inr h
section
variable {K : PySem.W.Frag} {H H' : Hp}
mutual
theorem Dq.mono (s : Same H H') : ∀ {d : D} {v : V}, Dq K H v d → Dq K H' v d
  | .none, _, h => by cases h; exact .non
  | .bool _, _, h => by cases h; exact .bl _
  | .int _, _, h => by cases h; exact .int _
  | .str _, _, h => by cases h with | str _ g => exact .str _ g
  | .list ds, _, h => by cases h with | lst e r => exact .lst (s _ _ e) (DqAll.mono s r)
  | .tuple ds, _, h => by cases h with | tup e r => exact .tup (Same.sqT s e) (DqAll.mono s r)
  | .dict _, _, h => by cases h
theorem DqAll.mono (s : Same H H') : ∀ {ds : List D} {vs : List V}, DqAll K H vs ds → DqAll K H' vs ds
  | [], _, h => by cases h; exact .nil
  | _ :: _, _, h => by cases h with | cons h1 h2 => exact .cons (Dq.mono s h1) (DqAll.mono s h2)
end
def TupK (K : PySem.W.Frag) (H H' : Hp) : Prop := ∀ a xs, SqT K H a xs → SqT K H' a xs
mutual
theorem Dq.lf (s : TupK K H H') : ∀ {d : D} {v : V}, lf d = true → Dq K H v d → Dq K H' v d
  | .none, _, _, h => by cases h; exact .non
  | .bool _, _, _, h => by cases h; exact .bl _
  | .int _, _, _, h => by cases h; exact .int _
  | .str _, _, _, h => by cases h with | str _ g => exact .str _ g
  | .list ds, _, l, h => by simp [DL.lf] at l
  | .tuple ds, _, l, h => by cases h with | tup e r => exact .tup (s _ _ e) (DqAll.lf s (by simpa [DL.lf] using l) r)
  | .dict _, _, _, h => by cases h
theorem DqAll.lf (s : TupK K H H') : ∀ {ds : List D} {vs : List V}, lfAll ds = true → DqAll K H vs ds → DqAll K H' vs ds
  | [], _, _, h => by cases h; exact .nil
  | d :: ds, _, l, h => by
    have l' : DL.lf d = true ∧ lfAll ds = true := by simpa [lfAll] using l
    cases h with | cons h1 h2 => exact .cons (Dq.lf s l'.1 h1) (DqAll.lf s l'.2 h2)
end
mutual
theorem Dq.dp : ∀ {d : D} {v : V}, Dq K H v d → Dp K H v d
  | .none, _, h => by cases h; exact .non
  | .bool _, _, h => by cases h; exact .bl _
  | .int _, _, h => by cases h; exact .int _
  | .str _, _, h => by cases h; exact .str _
  | .list ds, _, h => by cases h with | lst e r => exact .lst (SqL.of e) (DqAll.dp r)
  | .tuple ds, _, h => by cases h with | tup e r => exact .tup e (DqAll.dp r)
  | .dict _, _, h => by cases h
theorem DqAll.dp : ∀ {ds : List D} {vs : List V}, DqAll K H vs ds → DpAll K H vs ds
  | [], _, h => by cases h; exact .nil
  | _ :: _, _, h => by cases h with | cons h1 h2 => exact .cons (Dq.dp h1) (DqAll.dp h2)
end
mutual
theorem Dq.clean : ∀ {d : D} {v : V}, Dq K H v d → d.canLay0 = true
  | .none, _, _ => rfl
  | .bool _, _, _ => rfl
  | .int _, _, _ => rfl
  | .str _, _, h => by cases h with | str _ g => exact g
  | .list ds, _, h => by cases h with | lst e r => exact DqAll.clean r
  | .tuple ds, _, h => by cases h with | tup e r => exact DqAll.clean r
  | .dict _, _, h => by cases h
theorem DqAll.clean : ∀ {ds : List D} {vs : List V}, DqAll K H vs ds → PyData.canLayAll0 ds = true
  | [], _, _ => rfl
  | d :: ds, _, h => by cases h with | cons h1 h2 => simp only [PyData.canLayAll0, Dq.clean h1, DqAll.clean h2, Bool.and_self]
end
theorem DqAll.length : ∀ {vs : List V} {ds : List D}, DqAll K H vs ds → vs.length = ds.length
  | _, _, .nil => rfl
  | _, _, .cons _ h => congrArg (· + 1) h.length
theorem DqAll.get : ∀ {vs : List V} {ds : List D} {i : Nat} {d : D}, DqAll K H vs ds → ds[i]? = some d → ∃ v, vs[i]? = some v ∧ Dq K H v d
  | _, _, _, _, .nil, e => by simp at e
  | _, _, 0, _, .cons h _, e => by simp at e; subst e; exact ⟨_, rfl, h⟩
  | _, _, i + 1, d, .cons _ h, e => by
    obtain ⟨v, h1, h2⟩ := DqAll.get (i := i) (d := d) h (by simpa using e)
    exact ⟨v, by simpa using h1, h2⟩
theorem DqAll.getV : ∀ {vs : List V} {ds : List D} {i : Nat} {v : V}, DqAll K H vs ds → vs[i]? = some v → ∃ d, ds[i]? = some d ∧ Dq K H v d
  | _, _, _, _, .nil, e => by simp at e
  | _, _, 0, _, .cons h _, e => by simp at e; subst e; exact ⟨_, rfl, h⟩
  | _, _, i + 1, d, .cons _ h, e => by
    obtain ⟨v, h1, h2⟩ := DqAll.getV (i := i) h (by simpa using e)
    exact ⟨v, by simpa using h1, h2⟩
theorem DqAll.append : ∀ {vs ws : List V} {ds es : List D}, DqAll K H vs ds → DqAll K H ws es → DqAll K H (vs ++ ws) (ds ++ es)
  | _, _, _, _, .nil, h => h
  | _, _, _, _, .cons a b, h => .cons a (DqAll.append b h)
theorem DqAll.take : ∀ {vs : List V} {ds : List D} (n : Nat), DqAll K H vs ds → DqAll K H (vs.take n) (ds.take n)
  | _, _, 0, _ => .nil
  | _, _, _ + 1, .nil => .nil
  | _, _, n + 1, .cons a b => .cons a (DqAll.take n b)
theorem DqAll.drop : ∀ {vs : List V} {ds : List D} (n : Nat), DqAll K H vs ds → DqAll K H (vs.drop n) (ds.drop n)
  | _, _, 0, h => h
  | _, _, _ + 1, .nil => .nil
  | _, _, n + 1, .cons a b => DqAll.drop n b
theorem DqAll.dropLast {vs : List V} {ds : List D} (h : DqAll K H vs ds) : DqAll K H vs.dropLast ds.dropLast := by
  rw [List.dropLast_eq_take, List.dropLast_eq_take, h.length]
  exact h.take _
theorem DqAll.reverse : ∀ {vs : List V} {ds : List D}, DqAll K H vs ds → DqAll K H vs.reverse ds.reverse
  | _, _, .nil => .nil
  | _, _, .cons a b => by
    rw [List.reverse_cons, List.reverse_cons]
    exact (DqAll.reverse b).append (.cons a .nil)
theorem DqAll.set {v : V} {d : D} (h : Dq K H v d) : ∀ {vs : List V} {ds : List D} (i : Nat), DqAll K H vs ds → DqAll K H (vs.set i v) (ds.set i d)
  | _, _, _, .nil => .nil
  | _, _, 0, .cons _ b => .cons h b
  | _, _, i + 1, .cons a b => .cons a (DqAll.set h i b)
theorem DqAll.eraseIdx : ∀ {vs : List V} {ds : List D} (i : Nat), DqAll K H vs ds → DqAll K H (vs.eraseIdx i) (ds.eraseIdx i)
  | _, _, _, .nil => .nil
  | _, _, 0, .cons _ b => b
  | _, _, i + 1, .cons a b => .cons a (DqAll.eraseIdx i b)
theorem DqAll.ints : ∀ {ns : List Int} {vs : List V}, DqAll K H vs (ns.map .int) → vs = ns.map V.int
  | [], _, h => by cases h; rfl
  | n :: ns, _, h => by cases h with | cons a b => cases a; rw [List.map_cons, DqAll.ints b]
theorem DqAll.of_ints : ∀ ns : List Int, DqAll K H (ns.map V.int) (ns.map .int)
  | [] => .nil
  | n :: ns => .cons (.int n) (DqAll.of_ints ns)
theorem DqAll.bools : ∀ {ns : List Bool} {vs : List V}, DqAll K H vs (ns.map .bool) → vs = ns.map V.bl
  | [], _, h => by cases h; rfl
  | n :: ns, _, h => by cases h with | cons a b => cases a; rw [List.map_cons, DqAll.bools b]
theorem DqAll.strs : ∀ {ns : List Str} {vs : List V}, DqAll K H vs (ns.map .str) → vs = ns.map V.str
  | [], _, h => by cases h; rfl
  | n :: ns, _, h => by cases h with | cons a b => cases a; rw [List.map_cons, DqAll.strs b]
theorem DqAll.cut {vs : List V} {ds : List D} (h : DqAll K H vs ds) (lo hi : Option Int) : DqAll K H (cutV vs lo hi) ((ds.drop (HT.sIx ds.length 0 lo)).take (HT.sIx ds.length ds.length hi - HT.sIx ds.length 0 lo)) := by
  unfold cutV
  rw [h.length]
  exact (h.drop _).take _
end
/-! ### hidden addresses -/
def hid (P : List Addr) (H : Hp) : Hp := fun a => if a ∈ P then none else H a
theorem hid_ne {P : List Addr} {H : Hp} {a : Addr} (h : a ∉ P) : hid P H a = H a := if_neg h
theorem hid_some {P : List Addr} {H : Hp} {a : Addr} {o : HO} : hid P H a = some o ↔ a ∉ P ∧ H a = some o := by
  unfold hid
  by_cases h : a ∈ P
  · simp [h]
  · simp [h]
theorem hid_same {P : List Addr} {H : Hp} : Same (hid P H) H := fun b o e => (hid_some.mp e).2
theorem hid_mono {P Q : List Addr} {H H' : Hp} (hs : ∀ b o, b ∉ P → H b = some o → H' b = some o ∧ b ∉ Q) : Same (hid P H) (hid Q H') := fun b o e => by
  obtain ⟨h1, h2⟩ := hid_some.mp e
  obtain ⟨h3, h4⟩ := hs b o h1 h2
  exact hid_some.mpr ⟨h4, h3⟩
theorem hid_drop {H : Hp} {P Q : List Addr} : Same (hid (P ++ Q) H) (hid P H) := hid_mono fun b o hn h => ⟨h, fun z => hn (List.mem_append_left _ z)⟩
def NoTup (H : Hp) (b : Addr) : Prop := ∀ xs, ¬ Rd H b (.tup xs)
theorem noTup_lst {H : Hp} {b : Addr} {xs : List V} (h : H b = some (.lst xs)) : NoTup H b := fun ys r => by
  rcases r with r | ⟨o, r⟩ <;> (rw [h] at r; cases r)
theorem noTup_dK {H : Hp} {b : Addr} {xs : List (Key × V)} (h : H b = some (.dK xs)) : NoTup H b := fun ys r => by
  rcases r with r | ⟨o, r⟩ <;> (rw [h] at r; cases r)
theorem tupK_hid {K : PySem.W.Frag} {P : List Addr} {H : Hp} (h : ∀ b ∈ P, NoTup H b) : TupK K H (hid P H) := fun a xs q => by
  rcases q with q | q
  · by_cases hp : a ∈ P
    · exact absurd q (h a hp xs)
    · rcases q with q | ⟨o, q⟩
      · exact .inl (.inl (by rw [hid_ne hp]; exact q))
      · exact .inl (.inr ⟨o, by rw [hid_ne hp]; exact q⟩)
  · exact .inr q
/-! ### slots -/
inductive SD where
  | un
  | d (x : D)
  | own (p : Addr) (xs : List D)
  | src
  | raw (v : V)
def addrs (δ : List SD) : List Addr := δ.filterMap fun s => match s with | .own p _ => some p | _ => none
structure Gd where
  H0 : Hp
  src : Option (Addr × Addr)
  hd : List Addr
def Gd.sl (G : Gd) : List Addr := match G.src with | some (a, lc) => [a, lc] | none => []
def srcFs (lc : Addr) (left mixed turn : Int) : List (Key × V) := [(.inr "cells", .ref lc), (.inr "left", .int left), (.inr "mixed", .int mixed), (.inr "turn", .int turn)]
structure SrcAt (H : Hp) (a lc : Addr) : Prop where
  ex : ∃ (cells : List Int) (left mixed turn : Int), H a = some (.dK (srcFs lc left mixed turn)) ∧ H lc = some (.lst (cells.map V.int)) ∧ 0 ≤ left ∧ (∀ c ∈ cells, 0 ≤ c) ∧ cells.length ≤ 63
structure EnvOk (G : Gd) (H : Hp) : Prop where
  src : ∀ a lc, G.src = some (a, lc) → SrcAt H a lc
  slh : ∀ b ∈ G.sl, b ∈ G.hd
  hdt : ∀ b ∈ G.hd, ∃ o, H b = some o
  hdn : ∀ b ∈ G.hd, NoTup H b
  frm : ∀ b o, G.H0 b = some o → b ∉ G.sl → H b = some o
/-- a quiet step: all that is tracked stays but the source, which stays a source -/
structure Qs (G : Gd) (H H' : Hp) : Prop where
  st : ∀ b o, H b = some o → b ∉ G.sl → H' b = some o
  src : ∀ a lc, G.src = some (a, lc) → SrcAt H' a lc
theorem Qs.trans {G : Gd} {H H1 H2 : Hp} (a : Qs G H H1) (b : Qs G H1 H2) : Qs G H H2 := ⟨fun c o h n => b.st c o (a.st c o h n) n, b.src⟩
theorem EnvOk.refl {G : Gd} {H : Hp} (e : EnvOk G H) : Qs G H H := ⟨fun _ _ h _ => h, e.src⟩
theorem EnvOk.same {G : Gd} {H H' : Hp} (e : EnvOk G H) (s : Same H H') : Qs G H H' := ⟨fun b o h _ => s b o h, fun a lc h => by
  obtain ⟨⟨c, l, m, t, h1, h2, h3⟩⟩ := e.src a lc h
  exact ⟨⟨c, l, m, t, s _ _ h1, s _ _ h2, h3⟩⟩⟩
theorem SrcAt.no {H : Hp} {a lc : Addr} (h : SrcAt H a lc) : ∀ b ∈ [a, lc], (∃ o, H b = some o) ∧ NoTup H b := fun b hb => by
  obtain ⟨⟨c, l, m, t, h1, h2, h3⟩⟩ := h
  rcases List.mem_cons.mp hb with e | hb
  · subst e; exact ⟨⟨_, h1⟩, noTup_dK h1⟩
  · rcases List.mem_cons.mp hb with e | hb
    · subst e; exact ⟨⟨_, h2⟩, noTup_lst h2⟩
    · cases hb
theorem Gd.sl_some {G : Gd} {b : Addr} (h : b ∈ G.sl) : ∃ a lc, G.src = some (a, lc) ∧ b ∈ [a, lc] := by
  unfold Gd.sl at h
  split at h
  · rename_i a lc e; exact ⟨a, lc, e, h⟩
  · cases h
theorem NoTup.keep {H H' : Hp} {b : Addr} {o : HO} (n : NoTup H b) (h : H b = some o) (h' : H' b = some o) : NoTup H' b := fun xs r => by
  refine n xs ?_
  rcases r with r | ⟨u, r⟩
  · exact .inl (by rw [h, ← h']; exact r)
  · exact .inr ⟨u, by rw [h, ← h']; exact r⟩
theorem EnvOk.quiet {G : Gd} {H H' : Hp} (e : EnvOk G H) (q : Qs G H H') : EnvOk G H' := by
  have key : ∀ b ∈ G.hd, (∃ o, H' b = some o) ∧ NoTup H' b := fun b hb => by
    by_cases hs : b ∈ G.sl
    · obtain ⟨a, lc, es, hm⟩ := G.sl_some hs
      exact (q.src a lc es).no b hm
    · obtain ⟨o, h⟩ := e.hdt b hb
      have h' := q.st b o h hs
      exact ⟨⟨o, h'⟩, (e.hdn b hb).keep h h'⟩
  exact ⟨q.src, e.slh, fun b hb => (key b hb).1, fun b hb => (key b hb).2, fun b o h n => q.st b o (e.frm b o h n) n⟩
theorem Qs.hs {G : Gd} {H H' : Hp} (e : EnvOk G H) (q : Qs G H H') (P : List Addr) : Same (hid (G.hd ++ P) H) (hid (G.hd ++ P) H') :=
  hid_mono fun b o hn h => ⟨q.st b o h fun z => hn (List.mem_append_left _ (e.slh b z)), hn⟩
theorem Qs.hs0 {G : Gd} {H H' : Hp} (e : EnvOk G H) (q : Qs G H H') : Same (hid G.hd H) (hid G.hd H') :=
  hid_mono fun b o hn h => ⟨q.st b o h fun z => hn (e.slh b z), hn⟩
theorem EnvOk.fresh0 {G : Gd} {H : Hp} (e : EnvOk G H) {p : Addr} (h : H p = none) : G.H0 p = none ∧ p ∉ G.hd := by
  have h2 : p ∉ G.hd := fun z => by
    obtain ⟨o, h3⟩ := e.hdt p z
    rw [h] at h3; cases h3
  refine ⟨?_, h2⟩
  cases q : G.H0 p with
  | none => rfl
  | some o =>
    have := e.frm p o q fun z => h2 (e.slh p z)
    rw [h] at this; cases this

def Slot (K : PySem.W.Frag) (G : Gd) (P : List Addr) (H : Hp) : SD → Option (Option V) → Prop
  | .un, _ => True
  | .d x, o => ∃ v, o = some (some v) ∧ Dq K (hid (G.hd ++ P) H) v x
  | .own p xs, o => o = some (some (.ref p)) ∧ p ∉ G.hd ∧ G.H0 p = none ∧ ∃ vs, H p = some (.lst vs) ∧ DqAll K (hid (G.hd ++ P) H) vs xs
  | .src, o => ∃ a lc, G.src = some (a, lc) ∧ o = some (some (.ref a))
  | .raw v, o => o = some (some v)
structure SR (K : PySem.W.Frag) (G : Gd) (δ : List SD) (σ : L2.St) (H : Hp) : Prop where
  env : EnvOk G H
  len : δ.length = σ.length
  nd : (addrs δ).Nodup
  at_ : ∀ (i : Nat) (s : SD), δ[i]? = some s → Slot K G (addrs δ) H s σ[i]?
theorem mem_addrs {δ : List SD} {p : Addr} : p ∈ addrs δ ↔ ∃ (i : Nat) (xs : List D), δ[i]? = some (.own p xs) := by
  unfold addrs
  rw [List.mem_filterMap]
  constructor
  · rintro ⟨s, hm, e⟩
    obtain ⟨i, hi⟩ := List.getElem?_of_mem hm
    cases s with
    | own q xs => cases e; exact ⟨i, xs, hi⟩
    | _ => cases e
  · rintro ⟨i, xs, h⟩
    exact ⟨_, List.mem_of_getElem? h, rfl⟩
section
variable {K : PySem.W.Frag} {G : Gd} {δ : List SD} {σ : L2.St} {H H' : Hp}
theorem SR.ownAt (S : SR K G δ σ H) {p : Addr} (h : p ∈ addrs δ) : p ∉ G.hd ∧ G.H0 p = none ∧ ∃ vs, H p = some (.lst vs) := by
  obtain ⟨i, xs, hi⟩ := mem_addrs.mp h
  obtain ⟨_, h1, h2, vs, h3, _⟩ := S.at_ i _ hi
  exact ⟨h1, h2, vs, h3⟩
theorem SR.noP (S : SR K G δ σ H) : ∀ b ∈ G.hd ++ addrs δ, NoTup H b := fun b hb => by
  rcases List.mem_append.mp hb with hb | hb
  · exact S.env.hdn b hb
  · obtain ⟨_, _, vs, h⟩ := S.ownAt hb
    exact noTup_lst h
theorem Slot.mono {P : List Addr} {s : SD} {o : Option (Option V)} (h : Slot K G P H s o) (hs : Same (hid (G.hd ++ P) H) (hid (G.hd ++ P) H')) (hp : ∀ p xs vs, s = .own p xs → H p = some (.lst vs) → H' p = some (.lst vs)) : Slot K G P H' s o := by
  cases s with
  | un => trivial
  | d x => obtain ⟨v, h1, h2⟩ := h; exact ⟨v, h1, h2.mono hs⟩
  | own p xs => obtain ⟨h1, h2, h3, vs, h4, h5⟩ := h; exact ⟨h1, h2, h3, vs, hp p xs vs rfl h4, h5.mono hs⟩
  | src => exact h
  | raw v => exact h
theorem SR.quiet (S : SR K G δ σ H) (q : Qs G H H') : SR K G δ σ H' := by
  refine ⟨S.env.quiet q, S.len, S.nd, fun i s hi => (S.at_ i s hi).mono (q.hs S.env _) fun p xs vs e h => ?_⟩
  subst e
  have hm : p ∈ addrs δ := mem_addrs.mpr ⟨i, xs, hi⟩
  exact q.st p _ h fun z => (S.ownAt hm).1 (S.env.slh p z)
/-- what a slot holds, as data -/
theorem SR.dat (S : SR K G δ σ H) {i : Nat} {x : D} (h : δ[i]? = some (.d x)) : ∃ v, σ[i]? = some (some v) ∧ Dq K (hid (G.hd ++ addrs δ) H) v x := S.at_ i _ h
theorem SR.owned (S : SR K G δ σ H) {i : Nat} {p : Addr} {xs : List D} (h : δ[i]? = some (.own p xs)) : σ[i]? = some (some (.ref p)) ∧ Dq K (hid G.hd H) (.ref p) (.list xs) := by
  obtain ⟨h1, h2, h3, vs, h4, h5⟩ := S.at_ i _ h
  exact ⟨h1, .lst (hid_some.mpr ⟨h2, h4⟩) (h5.mono hid_drop)⟩
end
/-- fresh: a list that was not there at H, its items apart from itself -/
def Fr (K : PySem.W.Frag) (G : Gd) (H : Hp) (v : V) (H' : Hp) (d : D) : Prop := ∃ p vs ds, v = .ref p ∧ (H p = none ∧ p ∉ G.hd) ∧ H' p = some (.lst vs) ∧ d = .list ds ∧ DqAll K (hid (p :: G.hd) H') vs ds
/-- what a value does not touch: apart from the owned lists or not -/
def hP (G : Gd) (P : List Addr) : Bool → List Addr
  | true => G.hd ++ P
  | false => G.hd
theorem hP_same {G : Gd} {P : List Addr} {H : Hp} : ∀ a, Same (hid (hP G P a) H) (hid G.hd H)
  | true => hid_drop
  | false => Same.refl _
/-- what is known of a value: a: apart from the owned lists; f: fresh -/
structure VR (K : PySem.W.Frag) (G : Gd) (P : List Addr) (H : Hp) (v : V) (H' : Hp) (d : D) (a f : Bool) : Prop where
  z : Dq K (hid (hP G P a) H') v d
  fr : f = true → Fr K G H v H' d
structure VRs (K : PySem.W.Frag) (G : Gd) (P : List Addr) (H' : Hp) (vs : List V) (ds : List D) (a : Bool) : Prop where
  z : DqAll K (hid (hP G P a) H') vs ds
theorem VR.q {K : PySem.W.Frag} {G : Gd} {P : List Addr} {H H' : Hp} {v : V} {d : D} {a f : Bool} (r : VR K G P H v H' d a f) : Dq K (hid G.hd H') v d := r.z.mono (hP_same a)
theorem VR.ap {K : PySem.W.Frag} {G : Gd} {P : List Addr} {H H' : Hp} {v : V} {d : D} {a f : Bool} (r : VR K G P H v H' d a f) (h : a = true) : Dq K (hid (G.hd ++ P) H') v d := by subst h; exact r.z
theorem VR.of {K : PySem.W.Frag} {G : Gd} {P : List Addr} {H H' : Hp} {v : V} {d : D} {a f : Bool} (q : Dq K (hid G.hd H') v d) (ap : a = true → Dq K (hid (G.hd ++ P) H') v d) (fr : f = true → Fr K G H v H' d) : VR K G P H v H' d a f := by
  cases a with
  | true => exact ⟨ap rfl, fr⟩
  | false => exact ⟨q, fr⟩
theorem VRs.q {K : PySem.W.Frag} {G : Gd} {P : List Addr} {H' : Hp} {v : List V} {d : List D} {a : Bool} (r : VRs K G P H' v d a) : DqAll K (hid G.hd H') v d := r.z.mono (hP_same a)
theorem VRs.ap {K : PySem.W.Frag} {G : Gd} {P : List Addr} {H' : Hp} {v : List V} {d : List D} {a : Bool} (r : VRs K G P H' v d a) (h : a = true) : DqAll K (hid (G.hd ++ P) H') v d := by subst h; exact r.z
theorem VRs.of {K : PySem.W.Frag} {G : Gd} {P : List Addr} {H' : Hp} {v : List V} {d : List D} {a : Bool} (q : DqAll K (hid G.hd H') v d) (ap : a = true → DqAll K (hid (G.hd ++ P) H') v d) : VRs K G P H' v d a := by
  cases a with
  | true => exact ⟨ap rfl⟩
  | false => exact ⟨q⟩
/-! ### expressions -/
abbrev TEd := List SD → (D → Bool → Bool → Prop) → Prop
abbrev TTd := List SD → (Bool → Prop) → Prop
abbrev TAd := List SD → (List D → Bool → Prop) → Prop
def lE (K : PySem.W.Frag) (G : Gd) (t : TEd) : TE := fun σ H Q => ∃ δ R, SR K G δ σ H ∧ t δ R ∧ ∀ v H' d a f, Qs G H H' → VR K G (addrs δ) H v H' d a f → R d a f → Q v H'
def lT (K : PySem.W.Frag) (G : Gd) (t : TTd) : TT := fun σ H Q => ∃ δ R, SR K G δ σ H ∧ t δ R ∧ ∀ b H', Qs G H H' → R b → Q b H'
def lA (K : PySem.W.Frag) (G : Gd) (t : TAd) : TA := fun σ H Q => ∃ δ R, SR K G δ σ H ∧ t δ R ∧ ∀ vs H' ds a, Qs G H H' → VRs K G (addrs δ) H' vs ds a → R ds a → Q vs H'
structure DE (X : Cx) (G : Gd) (e : Expr) (t : TEd) : Prop where
  pe : PE X e (lE X.K G t)
structure DT (X : Cx) (G : Gd) (e : Expr) (t : TTd) : Prop where
  pt : PT X e (lT X.K G t)
structure DW (X : Cx) (G : Gd) (e : Expr) (t : TTd) : Prop where
  pw : PW X e (lT X.K G t)
structure DA (X : Cx) (G : Gd) (es : List Expr) (t : TAd) : Prop where
  pa : PA X es (lA X.K G t)
theorem PE.imp {X : Cx} {e : Expr} {t t' : TE} (h : PE X e t) (i : ∀ σ H Q, t' σ H Q → t σ H Q) : PE X e t' := ⟨fun pins s σ H Q I hw => h.run pins s σ H Q I (i σ H Q hw)⟩
theorem PT.imp {X : Cx} {e : Expr} {t t' : TT} (h : PT X e t) (i : ∀ σ H Q, t' σ H Q → t σ H Q) : PT X e t' := ⟨fun pins s σ H Q I hw => h.run pins s σ H Q I (i σ H Q hw)⟩
theorem PW.imp {X : Cx} {e : Expr} {t t' : TT} (h : PW X e t) (i : ∀ σ H Q, t' σ H Q → t σ H Q) : PW X e t' := ⟨fun wh pins s σ H Q I hw => h.run wh pins s σ H Q I (i σ H Q hw)⟩
theorem PA.imp {X : Cx} {e : List Expr} {t t' : TA} (h : PA X e t) (i : ∀ σ H Q, t' σ H Q → t σ H Q) : PA X e t' := ⟨fun pos pins s σ H Q I hw => h.run pos pins s σ H Q I (i σ H Q hw)⟩
theorem PS.imp {X : Cx} {e : Stmt} {t t' : TS} (h : PS X e t) (i : ∀ D σ H, t' D σ H → t D σ H) : PS X e t' := ⟨fun pins s σ H D I hw => h.run pins s σ H D I (i D σ H hw)⟩
theorem PSs.imp {X : Cx} {e : List Stmt} {t t' : TS} (h : PSs X e t) (i : ∀ D σ H, t' D σ H → t D σ H) : PSs X e t' := ⟨fun pins s σ H D I hw => h.run pins s σ H D I (i D σ H hw)⟩
theorem PG.imp {X : Cx} {e : Expr} {t t' : TG} (h : PG X e t) (i : ∀ v σ H Q, t' v σ H Q → t v σ H Q) : PG X e t' := ⟨fun pins s σ H v u Q I r hw => h.run pins s σ H v u Q I r (i v σ H Q hw)⟩
theorem PGs.imp {X : Cx} {e : List Expr} {t t' : TGs} (h : PGs X e t) (i : ∀ v σ H Q, t' v σ H Q → t v σ H Q) : PGs X e t' := ⟨fun pins s σ H v u Q I r hw => h.run pins s σ H v u Q I r (i v σ H Q hw)⟩
theorem PI.imp {X : Cx} {tg e : Expr} {t t' : TI} (h : PI X tg e t) (i : ∀ σ H Q, t' σ H Q → t σ H Q) : PI X tg e t' := ⟨fun pins s σ H Q I hw => h.run pins s σ H Q I (i σ H Q hw)⟩
theorem upd_same' {H : Hp} {p : Addr} {o : HO} (h : H p = none) : Same H (upd H p o) := fun b x e => by
  rw [upd_ne (ne_of_none e h)]
  exact e
theorem EnvOk.new {G : Gd} {H : Hp} (e : EnvOk G H) {p : Addr} (h : H p = none) (o : HO) : Qs G H (upd H p o) := e.same (upd_same' h)
theorem hid_upd {P : List Addr} {H : Hp} {p : Addr} {o : HO} (hp : p ∉ P) : hid P (upd H p o) p = some o := by
  rw [hid_ne hp, upd_same]
section
variable {K : PySem.W.Frag} {G : Gd} {δ : List SD} {σ : L2.St} {H H1 H2 : Hp}
theorem SR.fresh (S : SR K G δ σ H) {p : Addr} (h : H p = none) : p ∉ G.hd ++ addrs δ := fun z => by
  rcases List.mem_append.mp z with z | z
  · exact (S.env.fresh0 h).2 z
  · obtain ⟨_, _, vs, e⟩ := S.ownAt z
    rw [h] at e; cases e
theorem Qs.none (e : EnvOk G H) (q : Qs G H H1) {p : Addr} (h : H1 p = none) : H p = none := by
  cases r : H p with
  | none => rfl
  | some o =>
    have := q.st p o r fun z => ((e.quiet q).fresh0 h).2 (e.slh p z)
    rw [h] at this; cases this
theorem VR.sc (S : SR K G δ σ H) (q : Qs G H H1) {v : V} {d : D} (h : ∀ H, Dq K H v d) : VR K G (addrs δ) H v H1 d true false := ⟨h _, fun z => by cases z⟩
theorem VR.lfA (S : SR K G δ σ H) (q : Qs G H H1) {v : V} {d : D} {a f : Bool} (r : VR K G (addrs δ) H v H1 d a f) (l : lf d = true) : VR K G (addrs δ) H v H1 d true f :=
  ⟨by
    have S1 := S.quiet q
    exact (r.q.mono hid_same).lf (tupK_hid S1.noP) l, r.fr⟩
theorem VRs.mono (S : SR K G δ σ H1) (q : Qs G H1 H2) {vs : List V} {ds : List D} {a : Bool} (r : VRs K G (addrs δ) H1 vs ds a) : VRs K G (addrs δ) H2 vs ds a :=
  .of (r.q.mono (q.hs0 S.env)) fun h => (r.ap h).mono (q.hs S.env _)
/-- a new tuple -/
theorem VR.newTup (S : SR K G δ σ H) (q1 : Qs G H H1) {p : Addr} (hp : H1 p = none) {vs : List V} {ds : List D} {a : Bool} (r : VRs K G (addrs δ) H1 vs ds a) :
    Qs G H (upd H1 p (.tup vs)) ∧ VR K G (addrs δ) H (.ref p) (upd H1 p (.tup vs)) (.tuple ds) a false := by
  have S1 := S.quiet q1
  have q2 := S1.env.new hp (.tup vs)
  have r2 := r.mono S1 q2
  have n := S1.fresh hp
  exact ⟨q1.trans q2, .of (.tup (SqT.of (hid_upd fun z => n (List.mem_append_left _ z))) r2.q) (fun h => .tup (SqT.of (hid_upd n)) (r2.ap h)) (fun z => by cases z)⟩
/-- a new list -/
theorem VR.newLst (S : SR K G δ σ H) (q1 : Qs G H H1) {p : Addr} (hp : H1 p = none) {vs : List V} {ds : List D} {a : Bool} (r : VRs K G (addrs δ) H1 vs ds a) :
    Qs G H (upd H1 p (.lst vs)) ∧ VR K G (addrs δ) H (.ref p) (upd H1 p (.lst vs)) (.list ds) a true := by
  have S1 := S.quiet q1
  have q2 := S1.env.new hp (.lst vs)
  have r2 := r.mono S1 q2
  have n := S1.fresh hp
  have d2 : DqAll K (hid (p :: G.hd) (upd H1 p (.lst vs))) vs ds := r.q.mono (hid_mono fun b o hn h => by
    have hb : b ≠ p := ne_of_none h hp
    exact ⟨by rw [upd_ne hb]; exact h, fun z => by
      rcases List.mem_cons.mp z with z | z
      · exact hb z
      · exact hn z⟩)
  exact ⟨q1.trans q2, .of (.lst (hid_upd fun z => n (List.mem_append_left _ z)) r2.q) (fun h => .lst (hid_upd n) (r2.ap h)) fun _ => ⟨p, vs, ds, rfl, ⟨q1.none S.env hp, fun z => n (List.mem_append_left _ z)⟩, upd_same, rfl, d2⟩⟩
end
section
variable {X : Cx} {G : Gd} {pos : Pos} {e a b : Expr} {t ta tb : TEd}
def tdVar (i : Nat) : TEd := fun δ R => match δ[i]? with
  | some (.d x) => R x true false
  | some (.own _ xs) => R (.list xs) false false
  | _ => False
theorem de_var (i : Nat) {x : Str} (hN : X.N[i]? = some x := by rfl) (hv : Vis X.env.scope x := by first | exact Or.inl rfl | exact Or.inr (Or.inl rfl) | exact Or.inr (Or.inr rfl)) (hd : (x == ("__debug__" : Str)) = false := by decide)
    (hcd : (x == ("__classdict__" : Str)) = false := by decide) : DE X G (.Name x pos) (tdVar i) := by
  refine ⟨PE.imp (pe_var hN hv hd hcd) fun σ H Q h => ?_⟩
  obtain ⟨δ, R, S, h, k⟩ := h
  unfold tdVar at h
  split at h
  · rename_i x e
    obtain ⟨v, h1, h2⟩ := S.dat e
    exact ⟨v, h1, k v H x true false S.env.refl ⟨h2, fun z => by cases z⟩ h⟩
  · rename_i p xs e
    obtain ⟨h1, h2⟩ := S.owned e
    exact ⟨_, h1, k _ H _ false false S.env.refl ⟨h2, fun z => by cases z⟩ h⟩
  · exact h.elim
def tdC (d : D) : TEd := fun _ R => R d true false
theorem de_c {v : V} {d : D} (h : PE X e (tC v)) (hd : ∀ H, Dq X.K H v d) : DE X G e (tdC d) := by
  refine ⟨PE.imp h fun σ H Q h => ?_⟩
  obtain ⟨δ, R, S, h, k⟩ := h
  exact k v H d true false S.env.refl (.sc S S.env.refl hd) h
theorem de_int {i j} : DE X G (.Constant (.int i) j pos) (tdC (.int i)) := de_c pe_int fun _ => .int _
theorem de_bl {i j} : DE X G (.Constant (.bool i) j pos) (tdC (.bool i)) := de_c pe_bl fun _ => .bl _
theorem de_non {j} : DE X G (.Constant .none j pos) (tdC .none) := de_c pe_non fun _ => .non
theorem de_str {i j} (h : sok i := by exact sok_of _) : DE X G (.Constant (.str i) j pos) (tdC (.str i)) := de_c pe_str fun _ => .str _ h
/-- a module's constant that is data -/
theorem de_glob {x : Str} {v : V} {d : D} {u : Value} (hm : X.mg x = some u) (r : RelV v u) (hd : ∀ H, Dq X.K H v d) (hg : Gl X x) (hdb : (x == ("__debug__" : Str)) = false := by decide) : DE X G (.Name x pos) (tdC d) := de_c (pe_glob hg hm r hdb) hd

/-! ### arguments, displays -/
def tdNil : TAd := fun _ R => R [] true
def tdCons (ta : TEd) (tr : TAd) : TAd := fun δ R => ta δ fun x a _ => tr δ fun xs b => R (x :: xs) (a && b)
theorem da_nil : DA X G [] tdNil := by
  refine ⟨PA.imp pa_nil fun σ H Q h => ?_⟩
  obtain ⟨δ, R, S, h, k⟩ := h
  exact k [] H [] true S.env.refl ⟨.nil⟩ h
theorem da_cons {es : List Expr} {tr : TAd} (ha : DE X G e ta) (hr : DA X G es tr) (hs : starEach (e :: es) X.env = (false, eval e X.env) :: starEach es X.env := by rfl) : DA X G (e :: es) (tdCons ta tr) := by
  refine ⟨PA.imp (pa_cons ha.pe hr.pa hs) fun σ H Q h => ?_⟩
  obtain ⟨δ, R, S, h, k⟩ := h
  refine ⟨δ, _, S, h, fun v H1 d a1 f q1 d1 r1 => ?_⟩
  refine ⟨δ, _, S.quiet q1, r1, fun vs H2 ds a2 q2 d2 r2 => ?_⟩
  have e1 := (S.quiet q1).env
  refine k _ H2 _ (a1 && a2) (q1.trans q2) (.of (.cons (d1.q.mono (q2.hs0 e1)) d2.q) fun h => ?_) r2
  have h' : a1 = true ∧ a2 = true := by simpa using h
  exact .cons ((d1.ap h'.1).mono (q2.hs e1 _)) (d2.ap h'.2)
def tdTup (t : TAd) : TEd := fun δ R => t δ fun xs a => xs.length ≤ sizeLine ∧ R (.tuple xs) a false
def tdLst (t : TAd) : TEd := fun δ R => t δ fun xs a => xs.length ≤ sizeLine ∧ R (.list xs) a true
theorem de_tup {es : List Expr} {x1} {t : TAd} (h : DA X G es t) : DE X G (.Tuple es x1 pos) (tdTup t) := by
  refine ⟨PE.imp (pe_tup h.pa) fun σ H Q h => ?_⟩
  obtain ⟨δ, R, S, h, k⟩ := h
  refine ⟨δ, _, S, h, fun vs H1 ds a q1 d1 ⟨z, r1⟩ => ⟨by rw [d1.q.length]; exact z, fun p hp => ?_⟩⟩
  obtain ⟨q2, r2⟩ := VR.newTup S q1 hp d1
  exact k _ _ (.tuple ds) a false q2 r2 r1
theorem de_lst {es : List Expr} {t : TAd} (h : DA X G es t) : DE X G (.List es pos) (tdLst t) := by
  refine ⟨PE.imp (pe_lst h.pa) fun σ H Q h => ?_⟩
  obtain ⟨δ, R, S, h, k⟩ := h
  refine ⟨δ, _, S, h, fun vs H1 ds a q1 d1 ⟨z, r1⟩ => ⟨by rw [d1.q.length]; exact z, fun p hp => ?_⟩⟩
  obtain ⟨q2, r2⟩ := VR.newLst S q1 hp d1
  exact k _ _ (.list ds) a true q2 r2 r1
end
end DL

set_option Elab.async false
set_option linter.all false
set_option maxRecDepth 100000
set_option maxHeartbeats 4000000
namespace DL
open PySem PySem.Spec PyProof.Rows L2
/-! ### tests, values of tests -/
section
variable {X : Cx} {G : Gd} {pos : Pos} {e a b c : Expr} {rest : List Expr} {t ta tb : TEd} {tt uu : TTd}
def tdB (t : TEd) : TTd := fun δ R => t δ fun d _ _ => match d with
  | .bool c => R c
  | _ => False
theorem dt_val (h : DE X G e t) (he : ∀ whole, isTrue e X.env whole = (do let v ← whole; standAt e.pos; holding [v] (truthy v)) := by intro _; rfl) : DT X G e (tdB t) := by
  refine ⟨PT.imp (pt_val h.pe he) fun σ H Q h => ?_⟩
  obtain ⟨δ, R, S, h, k⟩ := h
  refine ⟨δ, _, S, h, fun v H1 d a f q1 d1 r1 => ?_⟩
  cases d with
  | bool c =>
    cases d1.q
    exact ⟨c, rfl, k c H1 q1 r1⟩
  | _ => exact r1.elim
def tdAnd (t u : TTd) : TTd := fun δ R => t δ fun c => if c = true then u δ R else R false
def tdOr (t u : TTd) : TTd := fun δ R => t δ fun c => if c = true then R true else u δ R
def tdNot (t : TTd) : TTd := fun δ R => t δ fun c => R (!c)
theorem dw_and1 (h : DT X G a tt) : DW X G (.BoolOp .And [a] pos) tt := ⟨pw_and1 h.pt⟩
theorem dw_or1 (h : DT X G a tt) : DW X G (.BoolOp .Or [a] pos) tt := ⟨pw_or1 h.pt⟩
theorem dw_and (h : DT X G a tt) (hb : DW X G (.BoolOp .And (b :: rest) pos) uu) : DW X G (.BoolOp .And (a :: b :: rest) pos) (tdAnd tt uu) := by
  refine ⟨PW.imp (pw_and h.pt hb.pw) fun σ H Q h => ?_⟩
  obtain ⟨δ, R, S, h, k⟩ := h
  refine ⟨δ, _, S, h, fun c H1 q1 r1 => ?_⟩
  by_cases hc : c = true
  · rw [if_pos hc] at r1 ⊢
    exact ⟨δ, R, S.quiet q1, r1, fun b H2 q2 r2 => k b H2 (q1.trans q2) r2⟩
  · rw [if_neg hc] at r1 ⊢
    exact k false H1 q1 r1
theorem dw_or (h : DT X G a tt) (hb : DW X G (.BoolOp .Or (b :: rest) pos) uu) : DW X G (.BoolOp .Or (a :: b :: rest) pos) (tdOr tt uu) := by
  refine ⟨PW.imp (pw_or h.pt hb.pw) fun σ H Q h => ?_⟩
  obtain ⟨δ, R, S, h, k⟩ := h
  refine ⟨δ, _, S, h, fun c H1 q1 r1 => ?_⟩
  by_cases hc : c = true
  · rw [if_pos hc] at r1 ⊢
    exact k true H1 q1 r1
  · rw [if_neg hc] at r1 ⊢
    exact ⟨δ, R, S.quiet q1, r1, fun b H2 q2 r2 => k b H2 (q1.trans q2) r2⟩
theorem DW.dt (h : DW X G e tt) : DT X G e tt := ⟨h.pw.pt⟩
theorem dt_not (h : DT X G a tt) : DT X G (.UnaryOp .Not a pos) (tdNot tt) := by
  refine ⟨PT.imp (pt_not h.pt) fun σ H Q h => ?_⟩
  obtain ⟨δ, R, S, h, k⟩ := h
  exact ⟨δ, _, S, h, fun c H1 q1 r1 => k _ H1 q1 r1⟩
def tdAndV (ta tb : TEd) : TEd := fun δ R => ta δ fun d _ _ => match d with
  | .bool c => if c = true then tb δ R else R (.bool false) true false
  | _ => False
def tdOrV (ta tb : TEd) : TEd := fun δ R => ta δ fun d _ _ => match d with
  | .bool c => if c = true then R (.bool true) true false else tb δ R
  | _ => False
def tdNotV (ta : TEd) : TEd := fun δ R => ta δ fun d _ _ => match d with
  | .bool c => R (.bool (!c)) true false
  | _ => False
theorem de_one {op} (h : DE X G a t) : DE X G (.BoolOp op [a] pos) t := ⟨pe_one h.pe⟩
theorem VR.from {K : PySem.W.Frag} {P : List Addr} {H H1 H2 : Hp} {v : V} {d : D} {a f : Bool} (e : EnvOk G H) (q1 : Qs G H H1) (r : VR K G P H1 v H2 d a f) : VR K G P H v H2 d a f :=
  ⟨r.z, fun h => by
    obtain ⟨p, vs, ds, e1, e2, e3, e4, e5⟩ := r.fr h
    exact ⟨p, vs, ds, e1, ⟨q1.none e e2.1, e2.2⟩, e3, e4, e5⟩⟩
theorem de_and (ha : DE X G a ta) (hb : DE X G (.BoolOp .And (b :: rest) pos) tb) : DE X G (.BoolOp .And (a :: b :: rest) pos) (tdAndV ta tb) := by
  refine ⟨PE.imp (pe_and ha.pe hb.pe) fun σ H Q h => ?_⟩
  obtain ⟨δ, R, S, h, k⟩ := h
  refine ⟨δ, _, S, h, fun v H1 d a f q1 d1 r1 => ?_⟩
  cases d with
  | bool c =>
    cases d1.q
    refine ⟨c, rfl, ?_⟩
    have r1 : if c = true then tb δ R else R (.bool false) true false := r1
    by_cases hc : c = true
    · rw [if_pos hc] at r1 ⊢
      exact ⟨δ, R, S.quiet q1, r1, fun v H2 d a f q2 d2 r2 => k v H2 d a f (q1.trans q2) (d2.from S.env q1) r2⟩
    · rw [if_neg hc] at r1 ⊢
      exact k _ H1 _ _ _ q1 (.sc S q1 fun _ => .bl _) r1
  | _ => exact r1.elim
theorem de_or (ha : DE X G a ta) (hb : DE X G (.BoolOp .Or (b :: rest) pos) tb) : DE X G (.BoolOp .Or (a :: b :: rest) pos) (tdOrV ta tb) := by
  refine ⟨PE.imp (pe_or ha.pe hb.pe) fun σ H Q h => ?_⟩
  obtain ⟨δ, R, S, h, k⟩ := h
  refine ⟨δ, _, S, h, fun v H1 d a f q1 d1 r1 => ?_⟩
  cases d with
  | bool c =>
    cases d1.q
    refine ⟨c, rfl, ?_⟩
    have r1 : if c = true then R (.bool true) true false else tb δ R := r1
    by_cases hc : c = true
    · rw [if_pos hc] at r1 ⊢
      exact k _ H1 _ _ _ q1 (.sc S q1 fun _ => .bl _) r1
    · rw [if_neg hc] at r1 ⊢
      exact ⟨δ, R, S.quiet q1, r1, fun v H2 d a f q2 d2 r2 => k v H2 d a f (q1.trans q2) (d2.from S.env q1) r2⟩
  | _ => exact r1.elim
theorem de_not (ha : DE X G a ta) : DE X G (.UnaryOp .Not a pos) (tdNotV ta) := by
  refine ⟨PE.imp (pe_not ha.pe) fun σ H Q h => ?_⟩
  obtain ⟨δ, R, S, h, k⟩ := h
  refine ⟨δ, _, S, h, fun v H1 d a f q1 d1 r1 => ?_⟩
  cases d with
  | bool c =>
    cases d1.q
    exact ⟨c, rfl, k _ H1 _ _ _ q1 (.sc S q1 fun _ => .bl _) r1⟩
  | _ => exact r1.elim
def tdIf (tt : TTd) (ta tb : TEd) : TEd := fun δ R => tt δ fun c => if c = true then ta δ R else tb δ R
theorem de_if (hc : DT X G c tt) (ha : DE X G a ta) (hb : DE X G b tb) : DE X G (.IfExp c a b pos) (tdIf tt ta tb) := by
  refine ⟨PE.imp (pe_ifExp hc.pt ha.pe hb.pe) fun σ H Q h => ?_⟩
  obtain ⟨δ, R, S, h, k⟩ := h
  refine ⟨δ, _, S, h, fun c H1 q1 r1 => ?_⟩
  by_cases hc : c = true
  · rw [if_pos hc] at r1 ⊢
    exact ⟨δ, R, S.quiet q1, r1, fun v H2 d a f q2 d2 r2 => k v H2 d a f (q1.trans q2) (d2.from S.env q1) r2⟩
  · rw [if_neg hc] at r1 ⊢
    exact ⟨δ, R, S.quiet q1, r1, fun v H2 d a f q2 d2 r2 => k v H2 d a f (q1.trans q2) (d2.from S.env q1) r2⟩
end
/-! ### storing into a slot -/
def disown : SD → SD
  | .own _ xs => .d (.list xs)
  | s => s
/-- how a value is stored in slot i -/
def putD (i : Nat) (d : D) (a f : Bool) (δ : List SD) (Q : List SD → Prop) : Prop := match d with
  | .list xs => if (f && lfAll xs) = true then ∀ p, p ∉ addrs δ → Q (δ.set i (.own p xs)) else if a = true then Q (δ.set i (.d (.list xs))) else Q ((δ.map disown).set i (.d (.list xs)))
  | .tuple xs => if (a || lfAll xs) = true then Q (δ.set i (.d (.tuple xs))) else Q ((δ.map disown).set i (.d (.tuple xs)))
  | .dict _ => False
  | d => Q (δ.set i (.d d))
section
variable {K : PySem.W.Frag} {G : Gd} {δ : List SD} {σ : L2.St} {H H1 H2 : Hp}
theorem addrs_set_sub {i : Nat} {s : SD} (hs : ∀ p xs, s ≠ .own p xs) : ∀ p, p ∈ addrs (δ.set i s) → p ∈ addrs δ := fun p hp => by
  obtain ⟨j, xs, hj⟩ := mem_addrs.mp hp
  by_cases h : i = j
  · subst h
    by_cases hl : i < δ.length
    · rw [List.getElem?_set_self hl] at hj
      exact absurd (Option.some.inj hj) (hs p xs)
    · rw [List.getElem?_eq_none (by simpa using hl)] at hj; cases hj
  · rw [List.getElem?_set_ne h] at hj
    exact mem_addrs.mpr ⟨j, xs, hj⟩
theorem addrs_set_own {i : Nat} {q : Addr} {ys : List D} : ∀ p, p ∈ addrs (δ.set i (.own q ys)) → p = q ∨ p ∈ addrs δ := fun p hp => by
  obtain ⟨j, xs, hj⟩ := mem_addrs.mp hp
  by_cases h : i = j
  · subst h
    by_cases hl : i < δ.length
    · rw [List.getElem?_set_self hl] at hj
      cases hj; exact .inl rfl
    · rw [List.getElem?_eq_none (by simpa using hl)] at hj; cases hj
  · rw [List.getElem?_set_ne h] at hj
    exact .inr (mem_addrs.mpr ⟨j, xs, hj⟩)
theorem addrs_nil : addrs [] = [] := rfl
theorem addrs_cons_own {q : Addr} {xs : List D} : addrs (.own q xs :: δ) = q :: addrs δ := rfl
theorem addrs_cons_ne {s : SD} (h : ∀ p xs, s ≠ .own p xs) : addrs (s :: δ) = addrs δ := by
  cases s with
  | own p xs => exact absurd rfl (h p xs)
  | _ => rfl
theorem own_or (s : SD) : (∃ p xs, s = .own p xs) ∨ ∀ p xs, s ≠ .own p xs := by
  cases s with
  | own p xs => exact .inl ⟨p, xs, rfl⟩
  | _ => exact .inr fun _ _ z => by cases z
/-- setting a slot to what is not owned keeps the owned ones apart -/
theorem nd_set_ne : ∀ {δ : List SD} {i : Nat} {s : SD}, (∀ p xs, s ≠ .own p xs) → (addrs δ).Nodup → (addrs (δ.set i s)).Nodup
  | [], _, _, _, h => h
  | x :: δ, 0, s, hs, h => by
    rw [List.set_cons_zero, addrs_cons_ne hs]
    rcases own_or x with ⟨p, xs, rfl⟩ | hx
    · rw [addrs_cons_own] at h; exact (List.nodup_cons.mp h).2
    · rw [addrs_cons_ne hx] at h; exact h
  | x :: δ, i + 1, s, hs, h => by
    rw [List.set_cons_succ]
    rcases own_or x with ⟨p, xs, rfl⟩ | hx
    · rw [addrs_cons_own] at h ⊢
      have h' := List.nodup_cons.mp h
      exact List.nodup_cons.mpr ⟨fun z => h'.1 (addrs_set_sub hs _ z), nd_set_ne hs h'.2⟩
    · rw [addrs_cons_ne hx] at h ⊢; exact nd_set_ne hs h
theorem nd_set_own : ∀ {δ : List SD} {i : Nat} {q : Addr} {ys : List D}, q ∉ addrs δ → (addrs δ).Nodup → (addrs (δ.set i (.own q ys))).Nodup
  | [], _, _, _, _, h => h
  | x :: δ, 0, q, ys, hq, h => by
    rw [List.set_cons_zero, addrs_cons_own]
    rcases own_or x with ⟨p, xs, rfl⟩ | hx
    · rw [addrs_cons_own] at h hq; exact List.nodup_cons.mpr ⟨fun z => hq (List.mem_cons_of_mem _ z), (List.nodup_cons.mp h).2⟩
    · rw [addrs_cons_ne hx] at h hq; exact List.nodup_cons.mpr ⟨hq, h⟩
  | x :: δ, i + 1, q, ys, hq, h => by
    rw [List.set_cons_succ]
    rcases own_or x with ⟨p, xs, rfl⟩ | hx
    · rw [addrs_cons_own] at h hq ⊢
      have h' := List.nodup_cons.mp h
      refine List.nodup_cons.mpr ⟨fun z => ?_, nd_set_own (fun z => hq (List.mem_cons_of_mem _ z)) h'.2⟩
      rcases addrs_set_own _ z with z | z
      · exact hq (by rw [z]; exact List.mem_cons_self)
      · exact h'.1 z
    · rw [addrs_cons_ne hx] at h hq ⊢; exact nd_set_own hq h
/-- the same slot, its list otherwise -/
theorem addrs_set_same : ∀ {δ : List SD} {i : Nat} {q : Addr} {xs ys : List D}, δ[i]? = some (.own q xs) → addrs (δ.set i (.own q ys)) = addrs δ
  | [], _, _, _, _, h => by simp at h
  | x :: δ, 0, q, xs, ys, h => by
    have e : x = .own q xs := by simpa using h
    subst e; rfl
  | x :: δ, i + 1, q, xs, ys, h => by
    rw [List.set_cons_succ]
    have ih := addrs_set_same (δ := δ) (i := i) (ys := ys) (by simpa using h)
    rcases own_or x with ⟨p, zs, rfl⟩ | hx
    · rw [addrs_cons_own, addrs_cons_own, ih]
    · rw [addrs_cons_ne hx, addrs_cons_ne hx, ih]
theorem Slot.less {P P' : List Addr} {s : SD} {o : Option (Option V)} (h : Slot K G P H s o) (hs : ∀ p ∈ P', p ∈ P) : Slot K G P' H s o := by
  have m : Same (hid (G.hd ++ P) H) (hid (G.hd ++ P') H) := hid_mono fun b o hn e => ⟨e, fun z => hn (by
    rcases List.mem_append.mp z with z | z
    · exact List.mem_append_left _ z
    · exact List.mem_append_right _ (hs b z))⟩
  cases s with
  | un => trivial
  | d x => obtain ⟨v, h1, h2⟩ := h; exact ⟨v, h1, h2.mono m⟩
  | own p xs => obtain ⟨h1, h2, h3, vs, h4, h5⟩ := h; exact ⟨h1, h2, h3, vs, h4, h5.mono m⟩
  | src => exact h
  | raw v => exact h
theorem nd_two {q : Addr} : ∀ {δ : List SD} {i j : Nat} {xs zs : List D}, (addrs δ).Nodup → i < j → δ[i]? = some (.own q xs) → δ[j]? = some (.own q zs) → False := by
  intro δ
  induction δ with
  | nil => intro i j xs zs _ _ e; simp at e
  | cons s δ ih =>
    intro i j xs zs nd lt e1 e2
    cases i with
    | zero =>
      have es : s = .own q xs := by simpa using e1
      subst es
      cases j with
      | zero => exact absurd lt (Nat.lt_irrefl _)
      | succ j =>
        rw [addrs_cons_own] at nd
        exact (List.nodup_cons.mp nd).1 (mem_addrs.mpr ⟨j, zs, by simpa using e2⟩)
    | succ i =>
      cases j with
      | zero => exact absurd lt (Nat.not_lt_zero _)
      | succ j =>
        refine ih (i := i) (j := j) ?_ (Nat.lt_of_succ_lt_succ lt) (by simpa using e1) (by simpa using e2)
        rcases own_or s with ⟨p, xs, rfl⟩ | hx
        · rw [addrs_cons_own] at nd; exact (List.nodup_cons.mp nd).2
        · rw [addrs_cons_ne hx] at nd; exact nd
/-- a slot gets data that is apart from the owned lists -/
theorem SR.setD (S : SR K G δ σ H) {i : Nat} {v : V} {d : D} (hv : Dq K (hid (G.hd ++ addrs δ) H) v d) : SR K G (δ.set i (.d d)) (σ.set i (some v)) H := by
  have hs : ∀ p xs, SD.d d ≠ .own p xs := fun _ _ z => by cases z
  refine ⟨S.env, by rw [List.length_set, List.length_set]; exact S.len, nd_set_ne hs S.nd, fun j s hj => ?_⟩
  by_cases h : i = j
  · subst h
    have hl : i < δ.length := by
      rcases Nat.lt_or_ge i δ.length with z | z
      · exact z
      · rw [List.getElem?_eq_none (by simpa using z)] at hj; cases hj
    rw [List.getElem?_set_self hl] at hj
    cases hj
    rw [List.getElem?_set_self (by rw [← S.len]; exact hl)]
    have x : Slot K G (addrs δ) H (.d d) (some (some v)) := ⟨v, rfl, hv⟩
    exact x.less (addrs_set_sub hs)
  · rw [List.getElem?_set_ne h] at hj ⊢
    exact (S.at_ j s hj).less (addrs_set_sub hs)
/-- a slot gets a new list -/
theorem SR.setOwn (S : SR K G δ σ H) {i : Nat} {p : Addr} {vs : List V} {ds : List D} (hp : p ∉ G.hd ++ addrs δ) (h0 : G.H0 p = none) (hH : H p = some (.lst vs)) (hd : DqAll K (hid (p :: G.hd) H) vs ds) (hl : lfAll ds = true)
    (hap : ∀ (j : Nat) (x : D), δ[j]? = some (SD.d x) → ∃ v, σ[j]? = some (some v) ∧ Dq K (hid (p :: (G.hd ++ addrs δ)) H) v x)
    (hap2 : ∀ (j : Nat) (q : Addr) (xs : List D), δ[j]? = some (SD.own q xs) → ∃ ws, H q = some (.lst ws) ∧ DqAll K (hid (p :: (G.hd ++ addrs δ)) H) ws xs) : SR K G (δ.set i (.own p ds)) (σ.set i (some (.ref p))) H := by
  have np : p ∉ addrs δ := fun z => hp (List.mem_append_right _ z)
  have big : Same (hid (p :: (G.hd ++ addrs δ)) H) (hid (G.hd ++ addrs (δ.set i (.own p ds))) H) := hid_mono fun b o hn e => ⟨e, fun z => hn (by
    rcases List.mem_append.mp z with z | z
    · exact List.mem_cons_of_mem _ (List.mem_append_left _ z)
    · rcases addrs_set_own _ z with z | z
      · rw [z]; exact List.mem_cons_self
      · exact List.mem_cons_of_mem _ (List.mem_append_right _ z))⟩
  refine ⟨S.env, by rw [List.length_set, List.length_set]; exact S.len, nd_set_own np S.nd, fun j s hj => ?_⟩
  by_cases h : i = j
  · subst h
    have hl' : i < δ.length := by
      rcases Nat.lt_or_ge i δ.length with z | z
      · exact z
      · rw [List.getElem?_eq_none (by simpa using z)] at hj; cases hj
    rw [List.getElem?_set_self hl'] at hj
    cases hj
    rw [List.getElem?_set_self (by rw [← S.len]; exact hl')]
    refine ⟨rfl, fun z => hp (List.mem_append_left _ z), h0, vs, hH, ?_⟩
    have nt : ∀ b ∈ p :: (G.hd ++ addrs δ), NoTup H b := fun b hb => by
      rcases List.mem_cons.mp hb with e | hb
      · subst e; exact noTup_lst hH
      · exact S.noP b hb
    exact (((hd.mono hid_same).lf (tupK_hid nt) hl).mono big)
  · rw [List.getElem?_set_ne h] at hj ⊢
    cases s with
    | un => trivial
    | d x =>
      obtain ⟨v, h1, h2⟩ := hap j x hj
      exact ⟨v, h1, h2.mono big⟩
    | own q xs =>
      obtain ⟨h1, h2, h3, _⟩ := S.at_ j _ hj
      obtain ⟨ws, e1, e2⟩ := hap2 j q xs hj
      exact ⟨h1, h2, h3, ws, e1, e2.mono big⟩
    | src => exact S.at_ j _ hj
    | raw v => exact S.at_ j _ hj
theorem addrs_disown : addrs (δ.map disown) = [] := by
  induction δ with
  | nil => rfl
  | cons s δ ih => cases s <;> simpa [addrs, disown] using ih
theorem SR.disown (S : SR K G δ σ H) : SR K G (δ.map disown) σ H := by
  refine ⟨S.env, by rw [List.length_map]; exact S.len, by rw [addrs_disown]; exact List.nodup_nil, fun i s hi => ?_⟩
  rw [List.getElem?_map] at hi
  cases e : δ[i]? with
  | none => rw [e] at hi; cases hi
  | some s' =>
    rw [e] at hi
    cases hi
    rw [addrs_disown]
    cases s' with
    | own p xs =>
      obtain ⟨h1, h2⟩ := S.owned e
      exact ⟨_, h1, by rw [List.append_nil]; exact h2⟩
    | un => trivial
    | d x => exact (S.at_ i _ e).less fun p z => by cases z
    | src => exact S.at_ i _ e
    | raw v => exact S.at_ i _ e
/-- the store, from a value just made at H1 (begun at H) -/
theorem SR.put (S : SR K G δ σ H) (q : Qs G H H1) {i : Nat} {v : V} {d : D} {a f : Bool} (r : VR K G (addrs δ) H v H1 d a f) {Q : List SD → Prop} (h : putD i d a f δ Q) : ∃ δ', SR K G δ' (σ.set i (some v)) H1 ∧ Q δ' ∧ ∀ q, q ∈ addrs δ' → q ∈ addrs δ ∨ (f = true ∧ v = .ref q) := by
  have ne : ∀ x : D, ∀ p xs, SD.d x ≠ .own p xs := fun _ _ _ z => by cases z
  have S1 := S.quiet q
  have easy : lf d = true → Q (δ.set i (.d d)) → ∃ δ', SR K G δ' (σ.set i (some v)) H1 ∧ Q δ' ∧ ∀ q, q ∈ addrs δ' → q ∈ addrs δ ∨ (f = true ∧ v = .ref q) := fun l hq => ⟨_, S1.setD ((r.lfA S q l).ap rfl), hq, fun q z => .inl (addrs_set_sub (ne _) q z)⟩
  cases d with
  | none => exact easy rfl h
  | bool b => exact easy rfl h
  | int b => exact easy rfl h
  | str b => exact easy rfl h
  | dict b => exact h.elim
  | tuple xs =>
    dsimp only [putD] at h
    by_cases hc : (a || lfAll xs) = true
    · rw [if_pos hc] at h
      rcases Bool.or_eq_true_iff.mp hc with h1 | h1
      · exact ⟨_, S1.setD (r.ap h1), h, fun q z => .inl (addrs_set_sub (ne _) q z)⟩
      · exact easy (by simpa [DL.lf] using h1) h
    · rw [if_neg hc] at h
      exact ⟨_, S1.disown.setD (by rw [addrs_disown, List.append_nil]; exact r.q), h, fun q z => by
        have := addrs_set_sub (ne _) q z
        rw [addrs_disown] at this; cases this⟩
  | list xs =>
    dsimp only [putD] at h
    by_cases hf : (f && lfAll xs) = true
    · rw [if_pos hf] at h
      obtain ⟨hf, hl⟩ := Bool.and_eq_true_iff.mp hf
      obtain ⟨p, vs, ds, rfl, ⟨h0, _⟩, h1, e, h2⟩ := r.fr hf
      cases e
      have np := S.fresh h0
      refine ⟨_, S1.setOwn np (S.env.fresh0 h0).1 h1 h2 hl (fun j x hj => ?_) (fun j p' xs' hj => ?_), h p (fun z => np (List.mem_append_right _ z)), fun q z => (addrs_set_own q z).elim (fun e => .inr ⟨hf, by rw [e]⟩) .inl⟩
      · obtain ⟨v', e1, e2⟩ := S.dat hj
        refine ⟨v', e1, e2.mono (hid_mono fun b o hn e => ?_)⟩
        refine ⟨q.st b o e fun z => hn (List.mem_append_left _ (S.env.slh b z)), fun z => ?_⟩
        rcases List.mem_cons.mp z with z | z
        · rw [z, h0] at e; cases e
        · exact hn z
      · obtain ⟨_, e2, e3, ws, e4, e5⟩ := S.at_ j _ hj
        refine ⟨ws, q.st p' _ e4 fun z => e2 (S.env.slh _ z), e5.mono (hid_mono fun b o hn e => ?_)⟩
        refine ⟨q.st b o e fun z => hn (List.mem_append_left _ (S.env.slh b z)), fun z => ?_⟩
        rcases List.mem_cons.mp z with z | z
        · rw [z, h0] at e; cases e
        · exact hn z
    · rw [if_neg hf] at h
      by_cases ha : a = true
      · rw [if_pos ha] at h
        exact ⟨_, S1.setD (r.ap ha), h, fun q z => .inl (addrs_set_sub (ne _) q z)⟩
      · rw [if_neg ha] at h
        exact ⟨_, S1.disown.setD (by rw [addrs_disown, List.append_nil]; exact r.q), h, fun q z => by
          have := addrs_set_sub (ne _) q z
          rw [addrs_disown] at this; cases this⟩
/-- an owned list written -/
theorem SR.write (S : SR K G δ σ H) {i : Nat} {p : Addr} {xs ys : List D} {ws : List V} (hi : δ[i]? = some (.own p xs)) (hd : DqAll K (hid (G.hd ++ addrs δ) H) ws ys) : SR K G (δ.set i (.own p ys)) σ (upd H p (.lst ws)) := by
  obtain ⟨h1, h2, h3, vs, h4, h5⟩ := S.at_ i _ hi
  have hm : p ∈ addrs δ := mem_addrs.mpr ⟨i, xs, hi⟩
  have ea : addrs (δ.set i (.own p ys)) = addrs δ := addrs_set_same hi
  have sm : Same (hid (G.hd ++ addrs δ) H) (hid (G.hd ++ addrs δ) (upd H p (.lst ws))) := hid_mono fun b o hn e => ⟨by
    rw [upd_ne (fun z => hn (by rw [z]; exact List.mem_append_right _ hm))]; exact e, hn⟩
  refine ⟨⟨fun a lc e => ?_, S.env.slh, fun b hb => ?_, fun b hb => ?_, fun b o e n => ?_⟩, by rw [List.length_set]; exact S.len, by rw [ea]; exact S.nd, fun j s hj => ?_⟩
  · have hn : ∀ b ∈ [a, lc], b ≠ p := fun b hb z => h2 (by rw [← z]; exact S.env.slh b (by unfold Gd.sl; rw [e]; exact hb))
    obtain ⟨⟨c, l, m, t, e1, e2, e3⟩⟩ := S.env.src a lc e
    exact ⟨⟨c, l, m, t, by rw [upd_ne (hn a (by simp))]; exact e1, by rw [upd_ne (hn lc (by simp))]; exact e2, e3⟩⟩
  · have : b ≠ p := fun z => h2 (by rw [← z]; exact hb)
    rw [upd_ne this]; exact S.env.hdt b hb
  · have nb : b ≠ p := fun z => h2 (by rw [← z]; exact hb)
    obtain ⟨o, e⟩ := S.env.hdt b hb
    exact (S.env.hdn b hb).keep e (by rw [upd_ne nb]; exact e)
  · have nb : b ≠ p := fun z => by rw [z, h3] at e; cases e
    rw [upd_ne nb]; exact S.env.frm b o e n
  · rw [ea]
    by_cases h : i = j
    · subst h
      have hl : i < δ.length := by
        rcases Nat.lt_or_ge i δ.length with z | z
        · exact z
        · rw [List.getElem?_eq_none z] at hi; cases hi
      rw [List.getElem?_set_self hl] at hj
      cases hj
      exact ⟨h1, h2, h3, ws, upd_same, hd.mono sm⟩
    · rw [List.getElem?_set_ne h] at hj
      refine (S.at_ j s hj).mono sm fun q zs us e e2 => ?_
      subst e
      have : q ≠ p := fun z => by
        subst z
        rcases Nat.lt_or_gt_of_ne h with z | z
        · exact nd_two S.nd z hi hj
        · exact nd_two S.nd z hj hi
      rw [upd_ne this]; exact e2
end
end DL

set_option Elab.async false
set_option linter.all false
set_option maxRecDepth 100000
set_option maxHeartbeats 4000000
namespace DL
open PySem PySem.Spec PyProof.Rows L2
/-! ### statements -/
structure DEnds where
  nx : List SD → Prop
  rt : D → Bool → Prop
  bk : List SD → Prop := fun _ => False
  ct : List SD → Prop := fun _ => False
abbrev TSd := DEnds → List SD → Prop
structure Lk (K : PySem.W.Frag) (G : Gd) (E : DEnds) (D' : Ends) : Prop where
  nx : ∀ δ σ H, SR K G δ σ H → E.nx δ → D'.nx σ H
  rt : ∀ v H d f, EnvOk G H → Dq K (hid G.hd H) v d → (f = true → Fr K G G.H0 v H d) → E.rt d f → D'.rt v H
  bk : ∀ δ σ H, SR K G δ σ H → E.bk δ → D'.bk σ H
  ct : ∀ δ σ H, SR K G δ σ H → E.ct δ → D'.ct σ H
def lS (K : PySem.W.Frag) (G : Gd) (t : TSd) : TS := fun D' σ H => ∃ δ E, SR K G δ σ H ∧ t E δ ∧ Lk K G E D'
structure DS (X : Cx) (G : Gd) (st : Stmt) (t : TSd) : Prop where
  ps : PS X st (lS X.K G t)
structure DSs (X : Cx) (G : Gd) (st : List Stmt) (t : TSd) : Prop where
  pss : PSs X st (lS X.K G t)
section
variable {X : Cx} {G : Gd} {pos : Pos} {e a b : Expr} {st : Stmt} {rest : List Stmt} {t ta tb : TEd} {s u : TSd}
def tdNext : TSd := fun E δ => E.nx δ
def tdSeq (s u : TSd) : TSd := fun E δ => s { E with nx := u E } δ
theorem dss_nil : DSs X G [] tdNext := ⟨PSs.imp pss_nil fun D' σ H h => by
  obtain ⟨δ, E, S, h, l⟩ := h
  exact l.nx δ σ H S h⟩
theorem dss_cons (h1 : DS X G st s) (h2 : DSs X G rest u) : DSs X G (st :: rest) (tdSeq s u) := ⟨PSs.imp (pss_cons h1.ps h2.pss) fun D' σ H h => by
  obtain ⟨δ, E, S, h, l⟩ := h
  exact ⟨δ, _, S, h, fun δ' σ' H' S' h' => ⟨δ', E, S', h', l⟩, l.rt, l.bk, l.ct⟩⟩
theorem dss_one (h1 : DS X G st s) : DSs X G [st] s := ⟨PSs.imp (pss_one h1.ps) fun D' σ H h => h⟩
theorem ds_pass : DS X G (.Pass pos) tdNext := ⟨PS.imp ps_pass fun D' σ H h => by
  obtain ⟨δ, E, S, h, l⟩ := h
  exact l.nx δ σ H S h⟩
theorem ds_break : DS X G (.Break pos) (fun E δ => E.bk δ) := ⟨PS.imp ps_break fun D' σ H h => by
  obtain ⟨δ, E, S, h, l⟩ := h
  exact l.bk δ σ H S h⟩
theorem ds_continue : DS X G (.Continue pos) (fun E δ => E.ct δ) := ⟨PS.imp ps_continue fun D' σ H h => by
  obtain ⟨δ, E, S, h, l⟩ := h
  exact l.ct δ σ H S h⟩
def tdIfS (c : TTd) (s u : TSd) : TSd := fun E δ => c δ fun b => if b = true then s E δ else u E δ
theorem ds_if {c : Expr} {p q : List Stmt} {tc : TTd} (hc : DT X G c tc) (ha : DSs X G p s) (hb : DSs X G q u) : DS X G (.If c p q pos) (tdIfS tc s u) := ⟨PS.imp (ps_if hc.pt ha.pss hb.pss) fun D' σ H h => by
  obtain ⟨δ, E, S, h, l⟩ := h
  refine ⟨δ, _, S, h, fun b H1 q1 r1 => ?_⟩
  by_cases hb : b = true
  · rw [if_pos hb] at r1 ⊢
    exact ⟨δ, E, S.quiet q1, r1, l⟩
  · rw [if_neg hb] at r1 ⊢
    exact ⟨δ, E, S.quiet q1, r1, l⟩⟩
def tdRet (t : TEd) : TSd := fun E δ => t δ fun d _ f => E.rt d f
theorem ds_ret (h : DE X G e t) : DS X G (.Return (some e) pos) (tdRet t) := ⟨PS.imp (ps_ret h.pe) fun D' σ H h => by
  obtain ⟨δ, E, S, h, l⟩ := h
  refine ⟨δ, _, S, h, fun v H1 d a f q1 d1 r1 => l.rt v H1 d f (S.env.quiet q1) d1.q (fun hf => ?_) r1⟩
  obtain ⟨p, vs, ds, e1, ⟨e2, e2'⟩, e3, e4, e5⟩ := d1.fr hf
  exact ⟨p, vs, ds, e1, ⟨(S.env.fresh0 e2).1, e2'⟩, e3, e4, e5⟩⟩
def tdRetVar (i : Nat) : TSd := fun E δ => match δ[i]? with
  | some (.d x) => E.rt x false
  | some (.own _ xs) => E.rt (.list xs) true
  | _ => False
theorem ds_retVar (i : Nat) {x : Str} {pos' : Pos} (hN : X.N[i]? = some x := by rfl) (hv : Vis X.env.scope x := by first | exact Or.inl rfl | exact Or.inr (Or.inl rfl) | exact Or.inr (Or.inr rfl)) (hd : (x == ("__debug__" : Str)) = false := by decide)
    (hcd : (x == ("__classdict__" : Str)) = false := by decide) : DS X G (.Return (some (.Name x pos')) pos) (tdRetVar i) := ⟨PS.imp (ps_ret (pe_var hN hv hd hcd)) fun D' σ H h => by
  obtain ⟨δ, E, S, h, l⟩ := h
  unfold tdRetVar at h
  split at h
  · rename_i x e
    obtain ⟨v, h1, h2⟩ := S.dat e
    exact ⟨v, h1, l.rt v H x false S.env (h2.mono hid_drop) (fun z => by cases z) h⟩
  · rename_i p xs e
    obtain ⟨h1, h2⟩ := S.owned e
    obtain ⟨_, h3, h4, vs, h5, h6⟩ := S.at_ i _ e
    have hm : p ∈ addrs δ := mem_addrs.mpr ⟨i, xs, e⟩
    refine ⟨_, h1, l.rt _ H _ true S.env h2 (fun _ => ⟨p, vs, xs, rfl, ⟨h4, h3⟩, h5, rfl, h6.mono (hid_mono fun b o hn e => ⟨e, fun z => hn ?_⟩)⟩) h⟩
    rcases List.mem_cons.mp z with z | z
    · rw [z]; exact List.mem_append_right _ hm
    · exact List.mem_append_left _ z
  · exact h.elim⟩
def tdRetN : TSd := fun E _ => E.rt .none false
theorem ds_retN : DS X G (.Return none pos) tdRetN := ⟨PS.imp ps_retN fun D' σ H h => by
  obtain ⟨δ, E, S, h, l⟩ := h
  exact l.rt .non H .none false S.env .non (fun z => by cases z) h⟩
def tdExpr (t : TEd) : TSd := fun E δ => t δ fun _ _ _ => E.nx δ
theorem ds_expr (h : DE X G e t) (hs : swapsWith e none pos.line X.env = pure false := by rfl) : DS X G (.Expr e pos) (tdExpr t) := ⟨PS.imp (ps_expr h.pe hs) fun D' σ H h => by
  obtain ⟨δ, E, S, h, l⟩ := h
  exact ⟨δ, _, S, h, fun v H1 d a f q1 d1 r1 => l.nx δ σ H1 (S.quiet q1) r1⟩⟩
theorem ds_doc {x j pos'} : DS X G (.Expr (.Constant (.str x) j pos) pos') tdNext := ⟨PS.imp ps_doc fun D' σ H h => by
  obtain ⟨δ, E, S, h, l⟩ := h
  exact l.nx δ σ H S h⟩
/-! ### targets -/
abbrev TGd := D → Bool → Bool → List SD → (List SD → Prop) → Prop
abbrev TGsd := List D → Bool → List SD → (List SD → Prop) → Prop
/-- all slots but those at ts are as they were -/
def But (ts : List Nat) (σ σ' : L2.St) : Prop := σ'.length = σ.length ∧ ∀ j, j ∉ ts → σ'[j]? = σ[j]?
theorem But.set {σ : L2.St} {i : Nat} {v : Option V} : But [i] σ (σ.set i v) := ⟨List.length_set, fun j hj => List.getElem?_set_ne (fun z => hj (by rw [z]; exact List.mem_singleton.mpr rfl))⟩
theorem But.trans {σ σ1 σ2 : L2.St} {ts us : List Nat} (a : But ts σ σ1) (b : But us σ1 σ2) : But (ts ++ us) σ σ2 := ⟨b.1.trans a.1, fun j hj => (b.2 j fun z => hj (List.mem_append_right _ z)).trans (a.2 j fun z => hj (List.mem_append_left _ z))⟩
def lG (K : PySem.W.Frag) (G : Gd) (ts : List Nat) (t : TGd) : TG := fun v σ H Q => ∃ δ d a f R Hs, SR K G δ σ Hs ∧ Qs G Hs H ∧ VR K G (addrs δ) Hs v H d a f ∧ t d a f δ R ∧ ∀ δ' σ', SR K G δ' σ' H → But ts σ σ' → R δ' → Q σ' H
def lGs (K : PySem.W.Frag) (G : Gd) (ts : List Nat) (t : TGsd) : TGs := fun vs σ H Q => ∃ δ ds a R, SR K G δ σ H ∧ VRs K G (addrs δ) H vs ds a ∧ t ds a δ R ∧ ∀ δ' σ', SR K G δ' σ' H → But ts σ σ' → R δ' → Q σ' H
structure DG (X : Cx) (G : Gd) (target : Expr) (ts : List Nat) (t : TGd) : Prop where
  pg : PG X target (lG X.K G ts t)
structure DGs (X : Cx) (G : Gd) (targets : List Expr) (ts : List Nat) (t : TGsd) : Prop where
  pgs : PGs X targets (lGs X.K G ts t)
theorem dg_name (i : Nat) {x : Str} (hN : X.N.Nodup) (hi : X.N[i]? = some x := by rfl) (hx : Loc X.env.scope x := by first | exact Or.inl rfl | exact Or.inr rfl) (hf : X.fn x = true ∨ X.env.scope.names.lookup x = some .local := by first | exact .inl rfl | exact .inr rfl | assumption) : DG X G (.Name x pos) [i] (putD i) := ⟨PG.imp (pg_name hN hi hx hf) fun v σ H Q h => by
  obtain ⟨δ, d, a, f, R, Hs, S, q, r, h, k⟩ := h
  obtain ⟨δ', S', h', _⟩ := S.put q r h
  exact k δ' _ S' But.set h'⟩
def gdNil : TGsd := fun ds _ δ Q => ds = [] ∧ Q δ
def gdCons (t : TGd) (u : TGsd) : TGsd := fun ds a δ Q => match ds with
  | [] => False
  | d :: r => t d a false δ fun δ' => (∀ p, p ∈ addrs δ' → p ∈ addrs δ) ∧ u r a δ' Q
theorem dgs_nil : DGs X G [] [] gdNil := ⟨PGs.imp pgs_nil fun v σ H Q h => by
  obtain ⟨δ, ds, a, R, S, r, ⟨h1, h⟩, k⟩ := h
  subst h1
  have : v = [] := by have := r.q; cases this; rfl
  exact ⟨this, k δ σ S ⟨rfl, fun _ _ => rfl⟩ h⟩⟩
theorem dgs_cons {es : List Expr} {ts us : List Nat} {t : TGd} {u : TGsd} (h1 : DG X G e ts t) (h2 : DGs X G es us u) (hs : (assignEach (e :: es) X.env).map (·.2) = assign e X.env :: (assignEach es X.env).map (·.2) := by rfl) : DGs X G (e :: es) (ts ++ us) (gdCons t u) := ⟨PGs.imp (pgs_cons h1.pg h2.pgs hs) fun v σ H Q h => by
  obtain ⟨δ, ds, a, R, S, r, h, k⟩ := h
  cases ds with
  | nil => exact h.elim
  | cons d ds =>
    obtain ⟨rq⟩ := r
    cases rq with
    | @cons v0 vr _ _ q1 q2 =>
    refine ⟨v0, vr, rfl, δ, d, a, false, _, H, S, S.env.refl, ⟨q1, (fun z => by cases z)⟩, h, fun δ' σ' S' b1 h' => ?_⟩
    refine ⟨δ', ds, a, R, S', .of (q2.mono (hP_same a)) fun z => ?_, h'.2, fun δ2 σ2 S2 b2 r2 => k δ2 σ2 S2 (b1.trans b2) r2⟩
    subst z
    exact q2.mono (hid_mono fun b o hn e => ⟨e, fun z => hn (by
      rcases List.mem_append.mp z with z | z
      · exact List.mem_append_left _ z
      · exact List.mem_append_right _ (h'.1 b z))⟩)⟩
def gdTup (n : Nat) (u : TGsd) : TGd := fun d a _ δ Q => match d with
  | .tuple xs => xs.length = n ∧ u xs a δ Q
  | _ => False
theorem dg_tup {es : List Expr} {k : Nat} {ts : List Nat} {u : TGsd} {n : Nat} (hc : X.calm = true) (h : DGs X G es ts u)
    (hn : (assignEach es X.env).length = n := by rfl) (hst : (assignEach es X.env).findIdx? (·.1) = none := by rfl) : DG X G (.Tuple es k pos) ts (gdTup n u) := ⟨PG.imp (pg_tup hc h.pgs hn hst) fun v σ H Q h => by
  obtain ⟨δ, d, a, f, R, Hs, S, q, r, h, k⟩ := h
  cases d with
  | tuple xs =>
    cases r.z with
    | @tup p vs _ hs hd =>
    exact ⟨p, vs, rfl, Same.sqT hid_same hs, by rw [hd.length]; exact h.1, δ, xs, a, R, S.quiet q, ⟨hd⟩, h.2, k⟩
  | _ => exact h.elim⟩
end
end DL

set_option Elab.async false
set_option linter.all false
set_option maxRecDepth 100000
set_option maxHeartbeats 4000000
namespace DL
open PySem PySem.Spec PyProof.Rows L2
section
variable {X : Cx} {G : Gd} {pos : Pos} {e a b : Expr} {st : Stmt} {rest : List Stmt} {t ta tb : TEd} {s u : TSd}
/-! ### assignments -/
def tdSet (i : Nat) (t : TEd) : TSd := fun E δ => t δ fun d a f => putD i d a f δ E.nx
theorem ds_set (i : Nat) {x : Str} {pos' : Pos} (hN : X.N.Nodup) (he : DE X G e t) (hi : X.N[i]? = some x := by rfl) (hx : Loc X.env.scope x := by first | exact Or.inl rfl | exact Or.inr rfl) (hs : swapsWith e (some (.Name x pos')) pos.line X.env = pure false := by rfl)
    (hf : X.fn x = true ∨ X.env.scope.names.lookup x = some .local := by first | exact .inl rfl | exact .inr rfl | assumption) : DS X G (.Assign [.Name x pos'] e pos) (tdSet i t) := ⟨PS.imp (ps_set hN hi hx he.pe hs hf) fun D' σ H h => by
  obtain ⟨δ, E, S, h, l⟩ := h
  refine ⟨δ, _, S, h, fun v H1 d a f q1 d1 r1 => ?_⟩
  obtain ⟨δ', S', h', _⟩ := S.put q1 d1 r1
  exact l.nx δ' _ H1 S' h'⟩
def tdAsg (t : TEd) (g : TGd) : TSd := fun E δ => t δ fun d a f => g d a f δ E.nx
theorem ds_asg {tg : Expr} {ts : List Nat} {g : TGd} (he : DE X G e t) (hg : DG X G tg ts g) (hs : swapsWithSole [tg] e pos.line X.env = pure false := by rfl) (hw : swappedStores [tg] e X.env = pure none := by rfl)
    (h1 : (assignEach [tg] X.env).map (·.2) = [assign tg X.env] := by rfl) : DS X G (.Assign [tg] e pos) (tdAsg t g) := ⟨PS.imp (ps_asg he.pe hg.pg hs hw h1) fun D' σ H h => by
  obtain ⟨δ, E, S, h, l⟩ := h
  refine ⟨δ, _, S, h, fun v H1 d a f q1 d1 r1 => ?_⟩
  exact ⟨δ, d, a, f, E.nx, H, S, q1, d1, r1, fun δ' σ' S' _ h' => l.nx δ' σ' H1 S' h'⟩⟩
theorem VR.step {K : PySem.W.Frag} {δ : List SD} {σ : L2.St} {H H1 H2 : Hp} {v : V} {d : D} {a f : Bool} (S : SR K G δ σ H1) (q2 : Qs G H1 H2) (r : VR K G (addrs δ) H v H1 d a f) : VR K G (addrs δ) H v H2 d a f := by
  refine .of (r.q.mono (q2.hs0 S.env)) (fun h => (r.ap h).mono (q2.hs S.env _)) fun h => ?_
  obtain ⟨p, vs, ds, e1, ⟨e2, e2'⟩, e3, e4, e5⟩ := r.fr h
  exact ⟨p, vs, ds, e1, ⟨e2, e2'⟩, q2.st p _ e3 fun z => e2' (S.env.slh p z), e4, e5.mono (hid_mono fun b o hn e => ⟨q2.st b o e fun z => hn (List.mem_cons_of_mem _ (S.env.slh b z)), hn⟩)⟩
/-- one address more is hidden -/
abbrev Gd.also (G : Gd) (p : Addr) : Gd := { G with hd := p :: G.hd }
theorem SR.also {K : PySem.W.Frag} {δ : List SD} {σ : L2.St} {H H1 : Hp} {p : Addr} {vs : List V} (S : SR K G δ σ H) (q : Qs G H H1) (h0 : H p = none) (h1 : H1 p = some (.lst vs)) : SR K (G.also p) δ σ H1 := by
  have S1 := S.quiet q
  have np := S.fresh h0
  have sm : Same (hid (G.hd ++ addrs δ) H) (hid ((G.also p).hd ++ addrs δ) H1) := hid_mono fun b o hn e => ⟨q.st b o e fun z => hn (List.mem_append_left _ (S.env.slh b z)), fun z => by
    rcases List.mem_append.mp z with z | z
    · rcases List.mem_cons.mp z with z | z
      · rw [z, h0] at e; cases e
      · exact hn (List.mem_append_left _ z)
    · exact hn (List.mem_append_right _ z)⟩
  refine ⟨⟨S1.env.src, fun b hb => List.mem_cons_of_mem _ (S1.env.slh b hb), fun b hb => ?_, fun b hb => ?_, S1.env.frm⟩, S.len, S.nd, fun i s hi => ?_⟩
  · rcases List.mem_cons.mp hb with z | z
    · rw [z]; exact ⟨_, h1⟩
    · exact S1.env.hdt b z
  · rcases List.mem_cons.mp hb with z | z
    · rw [z]; exact noTup_lst h1
    · exact S1.env.hdn b z
  · have x := S.at_ i s hi
    cases s with
    | un => trivial
    | d x => obtain ⟨v, e1, e2⟩ := S.at_ i _ hi; exact ⟨v, e1, e2.mono sm⟩
    | own p' xs =>
      obtain ⟨e1, e2, e3, ws, e4, e5⟩ := S.at_ i _ hi
      have hm : p' ∈ addrs δ := mem_addrs.mpr ⟨i, xs, hi⟩
      refine ⟨e1, fun z => ?_, e3, ws, q.st p' _ e4 fun z => e2 (S.env.slh _ z), e5.mono sm⟩
      rcases List.mem_cons.mp z with z | z
      · exact np (List.mem_append_right _ (by rw [← z]; exact hm))
      · exact e2 z
    | src => exact S.at_ i _ hi
    | raw v => exact S.at_ i _ hi
/-- a, b = e1, e2, two plain local names -/
def tdPar (i j : Nat) (ta tb : TEd) : TSd := fun E δ => ta δ fun x a f => tb δ fun y b g => putD i x a f δ fun δ1 => putD j y b g δ1 E.nx
theorem addrs_disown_sub {δ : List SD} : ∀ p, p ∈ addrs (δ.map DL.disown) → p ∈ addrs δ := fun p h => by rw [addrs_disown] at h; cases h
theorem ds_par (i j : Nat) {x y : Str} {px py pt : Pos} {kt k2 pt2} (hc : X.calm = true) (hN : X.N.Nodup) (ha : DE X G a ta) (hb : ∀ G', DE X G' b tb) (hi : X.N[i]? = some x := by rfl) (hj : X.N[j]? = some y := by rfl) (hij : i ≠ j := by decide)
    (hx : X.env.scope.names.lookup x = some .local := by rfl) (hy : X.env.scope.names.lookup y = some .local := by rfl)
    (hw : swappedStores [.Tuple [.Name x px, .Name y py] kt pt] (.Tuple [a, b] k2 pt2) X.env = pure (some [x, y]) := by rfl)
    (hs : swapsWithSole [.Tuple [.Name x px, .Name y py] kt pt] (.Tuple [a, b] k2 pt2) pos.line X.env = pure false := by rfl)
    (s1 : starEach [a, b] X.env = (false, eval a X.env) :: starEach [b] X.env := by rfl) (s2 : starEach [b] X.env = (false, eval b X.env) :: starEach [] X.env := by rfl) :
    DS X G (.Assign [.Tuple [.Name x px, .Name y py] kt pt] (.Tuple [a, b] k2 pt2) pos) (tdPar i j ta tb) := by
  have hb2 : PE X b (fun σ H Q => ∃ G', lE X.K G' tb σ H Q) := ⟨fun pins s σ H Q I h => by obtain ⟨G', h⟩ := h; exact (hb G').pe.run pins s σ H Q I h⟩
  refine ⟨PS.imp (ps_par hc hN hi hj hij hx hy (pa_cons ha.pe (pa_cons hb2 pa_nil s2) s1) hw hs) fun D' σ H h => ?_⟩
  obtain ⟨δ, E, S, h, l⟩ := h
  refine ⟨δ, _, S, h, fun v H1 d a f q1 d1 r1 => ?_⟩
  have S1 := S.quiet q1
  cases f with
  | false =>
    refine ⟨G, δ, _, S1, r1, fun v2 H2 d2 a2 f2 q2 d2' r2 => ⟨v, v2, rfl, ?_⟩⟩
    obtain ⟨δ', S', h', sub⟩ := S.put q1 d1 r2
    have sub' : ∀ p, p ∈ addrs δ' → p ∈ addrs δ := fun p hp => (sub p hp).elim id fun z => by cases z.1
    have dd : VR X.K G (addrs δ') H1 v2 H2 d2 a2 f2 := .of d2'.q (fun z => (d2'.ap z).mono (hid_mono fun b o hn e => ⟨e, fun z => hn (by
      rcases List.mem_append.mp z with z | z
      · exact List.mem_append_left _ z
      · exact List.mem_append_right _ (sub' b z))⟩)) d2'.fr
    obtain ⟨δ'', S'', h'', _⟩ := S'.put q2 dd h'
    exact l.nx δ'' _ H2 S'' h''
  | true =>
    obtain ⟨p, vs, ds, rfl, ⟨e2, e2'⟩, e3, e4, e5⟩ := d1.fr rfl
    refine ⟨G.also p, δ, _, S.also q1 e2 e3, r1, fun v2 H2 d2 a2 f2 q2 d2' r2 => ⟨_, v2, rfl, ?_⟩⟩
    have q2' : Qs G H1 H2 := ⟨fun b o h n => q2.st b o h n, q2.src⟩
    obtain ⟨δ', S', h', sub⟩ := S.put q1 d1 r2
    have sub' : ∀ q, q ∈ addrs δ' → q ∈ addrs δ ∨ q = p := fun q hq => (sub q hq).elim .inl fun z => .inr (by have := z.2; cases this; rfl)
    have dd : VR X.K G (addrs δ') H1 v2 H2 d2 a2 f2 := .of (d2'.q.mono (hid_mono fun b o hn e => ⟨e, fun z => hn (List.mem_cons_of_mem _ z)⟩)) (fun z => (d2'.ap z).mono (hid_mono fun b o hn e => ⟨e, fun z => hn (by
      rcases List.mem_append.mp z with z | z
      · exact List.mem_append_left _ (List.mem_cons_of_mem _ z)
      · rcases sub' b z with z | z
        · exact List.mem_append_right _ z
        · rw [z]; exact List.mem_append_left _ List.mem_cons_self)⟩)) fun z => by
        obtain ⟨p2, vs2, ds2, g1, ⟨g2, g2'⟩, g3, g4, g5⟩ := d2'.fr z
        exact ⟨p2, vs2, ds2, g1, ⟨g2, fun z => g2' (List.mem_cons_of_mem _ z)⟩, g3, g4, g5.mono (hid_mono fun b o hn e => ⟨e, fun z => hn (by
          rcases List.mem_cons.mp z with z | z
          · rw [z]; exact List.mem_cons_self
          · exact List.mem_cons_of_mem _ (List.mem_cons_of_mem _ z))⟩)⟩
    obtain ⟨δ'', S'', h'', _⟩ := S'.put q2' dd h'
    exact l.nx δ'' _ H2 S'' h''
theorem VR.later {K : PySem.W.Frag} {P : List Addr} {H H1 H2 : Hp} {v : V} {d : D} {a f : Bool} (e : EnvOk G H1) (q : Qs G H1 H2) (r : VR K G P H v H1 d a f) : VR K G P H v H2 d a f := .of (r.q.mono (q.hs0 e)) (fun z => (r.ap z).mono (q.hs e P)) fun z => by
  obtain ⟨p, vs, ds, e1, ⟨e2, e2'⟩, e3, e4, e5⟩ := r.fr z
  have ns : p ∉ G.sl := fun z => e2' (e.slh p z)
  exact ⟨p, vs, ds, e1, ⟨e2, e2'⟩, q.st p _ e3 ns, e4, e5.mono (hid_mono fun b o hn x => ⟨q.st b o x fun z => hn (List.mem_cons_of_mem _ (e.slh b z)), hn⟩)⟩
/-- x, y = a, b where the pair is made first (a name of a cell among them) -/
theorem ds_parC (i j : Nat) {x y : Str} {px py pt : Pos} {kt k2 pt2} (hc : X.calm = true) (hN : X.N.Nodup) (ha : DE X G a ta) (hb : ∀ G', DE X G' b tb) (hi : X.N[i]? = some x := by rfl) (hj : X.N[j]? = some y := by rfl)
    (hx : Loc X.env.scope x := by first | exact Or.inl rfl | exact Or.inr rfl) (hy : Loc X.env.scope y := by first | exact Or.inl rfl | exact Or.inr rfl)
    (hfx : X.fn x = true ∨ X.env.scope.names.lookup x = some .local := by first | exact .inl rfl | exact .inr rfl | assumption) (hfy : X.fn y = true ∨ X.env.scope.names.lookup y = some .local := by first | exact .inl rfl | exact .inr rfl | assumption)
    (hs : swapsWithSole [.Tuple [.Name x px, .Name y py] kt pt] (.Tuple [a, b] k2 pt2) pos.line X.env = pure false := by rfl) (hw : swappedStores [.Tuple [.Name x px, .Name y py] kt pt] (.Tuple [a, b] k2 pt2) X.env = pure none := by rfl)
    (h1 : (assignEach [.Tuple [.Name x px, .Name y py] kt pt] X.env).map (·.2) = [assign (.Tuple [.Name x px, .Name y py] kt pt) X.env] := by rfl)
    (hn : (assignEach [.Name x px, .Name y py] X.env).length = 2 := by rfl) (hst : (assignEach [.Name x px, .Name y py] X.env).findIdx? (·.1) = none := by rfl)
    (s1 : starEach [a, b] X.env = (false, eval a X.env) :: starEach [b] X.env := by rfl) (s2 : starEach [b] X.env = (false, eval b X.env) :: starEach [] X.env := by rfl) :
    DS X G (.Assign [.Tuple [.Name x px, .Name y py] kt pt] (.Tuple [a, b] k2 pt2) pos) (tdPar i j ta tb) := by
  have hb2 : PE X b (fun σ H Q => ∃ G', lE X.K G' tb σ H Q) := ⟨fun pins s σ H Q I h => by obtain ⟨G', h⟩ := h; exact (hb G').pe.run pins s σ H Q I h⟩
  refine ⟨PS.imp (ps_asg (pe_tup (pa_cons ha.pe (pa_cons hb2 pa_nil s2) s1)) (pg_tup hc (pgs_cons (pg_name hN hi hx hfx) (pgs_cons (pg_name hN hj hy hfy) pgs_nil)) hn hst) hs hw h1) fun D' σ H h => ?_⟩
  obtain ⟨δ, E, S, h, l⟩ := h
  refine ⟨δ, _, S, h, fun v H1 d a f q1 d1 r1 => ?_⟩
  have S1 := S.quiet q1
  cases f with
  | false =>
    refine ⟨G, δ, _, S1, r1, fun v2 H2 d2 a2 f2 q2 d2' r2 => ⟨(show 2 ≤ sizeLine by rw [sizeLine_eq]; decide), fun T hT => ?_⟩⟩
    have S2 := S1.quiet q2
    have qT := S2.env.new hT (.tup [v, v2])
    refine ⟨T, [v, v2], rfl, .inl (.inl upd_same), rfl, ?_⟩
    obtain ⟨δ', S', h', sub⟩ := S.put q1 d1 r2
    have sub' : ∀ p, p ∈ addrs δ' → p ∈ addrs δ := fun p hp => (sub p hp).elim id fun z => by cases z.1
    have dd : VR X.K G (addrs δ') H1 v2 H2 d2 a2 f2 := .of d2'.q (fun z => (d2'.ap z).mono (hid_mono fun b o hn e => ⟨e, fun z => hn (by
      rcases List.mem_append.mp z with z | z
      · exact List.mem_append_left _ z
      · exact List.mem_append_right _ (sub' b z))⟩)) d2'.fr
    obtain ⟨δ'', S'', h'', _⟩ := S'.put (q2.trans qT) (dd.later S2.env qT) h'
    exact ⟨_, _, rfl, _, _, rfl, rfl, l.nx δ'' _ _ S'' h''⟩
  | true =>
    obtain ⟨p, vs, ds, rfl, ⟨e2, e2'⟩, e3, e4, e5⟩ := d1.fr rfl
    refine ⟨G.also p, δ, _, S.also q1 e2 e3, r1, fun v2 H2 d2 a2 f2 q2 d2' r2 => ⟨(show 2 ≤ sizeLine by rw [sizeLine_eq]; decide), fun T hT => ?_⟩⟩
    have q2' : Qs G H1 H2 := ⟨fun b o h n => q2.st b o h n, q2.src⟩
    have S2 := S1.quiet q2'
    have qT := S2.env.new hT (.tup [V.ref p, v2])
    refine ⟨T, [V.ref p, v2], rfl, .inl (.inl upd_same), rfl, ?_⟩
    obtain ⟨δ', S', h', sub⟩ := S.put q1 d1 r2
    have sub' : ∀ q, q ∈ addrs δ' → q ∈ addrs δ ∨ q = p := fun q hq => (sub q hq).elim .inl fun z => .inr (by have := z.2; cases this; rfl)
    have dd : VR X.K G (addrs δ') H1 v2 H2 d2 a2 f2 := .of (d2'.q.mono (hid_mono fun b o hn e => ⟨e, fun z => hn (List.mem_cons_of_mem _ z)⟩)) (fun z => (d2'.ap z).mono (hid_mono fun b o hn e => ⟨e, fun z => hn (by
      rcases List.mem_append.mp z with z | z
      · exact List.mem_append_left _ (List.mem_cons_of_mem _ z)
      · rcases sub' b z with z | z
        · exact List.mem_append_right _ z
        · rw [z]; exact List.mem_append_left _ List.mem_cons_self)⟩)) fun z => by
        obtain ⟨p2, vs2, ds2, g1, ⟨g2, g2'⟩, g3, g4, g5⟩ := d2'.fr z
        exact ⟨p2, vs2, ds2, g1, ⟨g2, fun z => g2' (List.mem_cons_of_mem _ z)⟩, g3, g4, g5.mono (hid_mono fun b o hn e => ⟨e, fun z => hn (by
          rcases List.mem_cons.mp z with z | z
          · rw [z]; exact List.mem_cons_self
          · exact List.mem_cons_of_mem _ (List.mem_cons_of_mem _ z))⟩)⟩
    obtain ⟨δ'', S'', h'', _⟩ := S'.put (q2'.trans qT) (dd.later S2.env qT) h'
    exact ⟨_, _, rfl, _, _, rfl, rfl, l.nx δ'' _ _ S'' h''⟩
/-! ### owned lists changed -/
theorem VR.apart {K : PySem.W.Frag} {δ : List SD} {σ : L2.St} {H H1 : Hp} {v : V} {d : D} {a f : Bool} (S : SR K G δ σ H) (q : Qs G H H1) (r : VR K G (addrs δ) H v H1 d a f) (h : a = true ∨ lf d = true) : Dq K (hid (G.hd ++ addrs δ) H1) v d := by
  rcases h with h | h
  · exact r.ap h
  · exact (r.lfA S q h).ap rfl
def tdAppend (i : Nat) (t : TEd) : TSd := fun E δ => match δ[i]? with
  | some (.own p xs) => t δ fun d a _ => xs.length < sizeLine ∧ (a = true ∨ lf d = true) ∧ E.nx (δ.set i (.own p (xs ++ [d])))
  | _ => False
theorem ds_append {i : Nat} (h : PE X e (tBM X.K "list" rAppend (tVar i) (tCons (lE X.K G t) tNil))) (hs : swapsWith e none pos.line X.env = pure false := by rfl) : DS X G (.Expr e pos) (tdAppend i t) := by
  refine ⟨PS.imp (ps_expr h hs) fun D' σ H h => ?_⟩
  obtain ⟨δ, E, S, h, l⟩ := h
  unfold tdAppend at h
  split at h
  · rename_i p xs hi
    obtain ⟨e1, e2, e3, vs, e4, e5⟩ := S.at_ i _ hi
    refine ⟨_, e1, .inl ⟨rfl, _, SqL.of e4⟩, δ, _, S, h, fun v H1 d a f q1 d1 r1 => ?_⟩
    obtain ⟨r1, r2, r3⟩ := r1
    have S1 := S.quiet q1
    obtain ⟨_, _, _, vs1, e4', e5'⟩ := S1.at_ i _ hi
    refine ⟨p, vs1, v, rfl, rfl, e4', by rw [e5'.length]; exact r1, ?_⟩
    exact l.nx _ _ _ (S1.write hi (e5'.append (.cons (d1.apart S q1 r2) .nil))) r3
  · exact h.elim
def tdExtend (i : Nat) (t : TEd) : TSd := fun E δ => match δ[i]? with
  | some (.own p xs) => t δ fun d a _ => match d with
    | .list ys => xs.length + ys.length ≤ sizeLine ∧ (a = true ∨ lfAll ys = true) ∧ E.nx (δ.set i (.own p (xs ++ ys)))
    | _ => False
  | _ => False
theorem ds_extend {i : Nat} (h : PE X e (tBM X.K "list" rExtend (tVar i) (tCons (lE X.K G t) tNil))) (hs : swapsWith e none pos.line X.env = pure false := by rfl) : DS X G (.Expr e pos) (tdExtend i t) := by
  refine ⟨PS.imp (ps_expr h hs) fun D' σ H h => ?_⟩
  obtain ⟨δ, E, S, h, l⟩ := h
  unfold tdExtend at h
  split at h
  · rename_i p xs hi
    obtain ⟨e1, e2, e3, vs, e4, e5⟩ := S.at_ i _ hi
    refine ⟨_, e1, .inl ⟨rfl, _, SqL.of e4⟩, δ, _, S, h, fun v H1 d a f q1 d1 r1 => ?_⟩
    cases d with
    | list ys =>
      obtain ⟨r1, r2, r3⟩ := r1
      have S1 := S.quiet q1
      obtain ⟨_, _, _, vs1, e4', e5'⟩ := S1.at_ i _ hi
      cases d1.z with
      | @lst b zs _ hb hd =>
      have hb' : H1 b = some (.lst zs) := (hid_some.mp hb).2
      refine ⟨p, b, vs1, zs, rfl, rfl, e4', hb', by rw [e5'.length, hd.length]; exact r1, ?_⟩
      have hd' : DqAll X.K (hid (G.hd ++ addrs δ) H1) zs ys := by
        rcases r2 with r2 | r2
        · subst r2; exact hd
        · exact (hd.mono hid_same).lf (tupK_hid S1.noP) r2
      exact l.nx _ _ _ (S1.write hi (e5'.append hd')) r3
    | _ => exact r1.elim
  · exact h.elim
/-- the last one taken off, given to a target -/
def tdAsgPop (g : TGd) (i : Nat) : TSd := fun E δ => match δ[i]? with
  | some (.own p xs) => ∃ d, xs.getLast? = some d ∧ g d true false (δ.set i (.own p xs.dropLast)) E.nx
  | _ => False
theorem getLast_vs {K : PySem.W.Frag} {H : Hp} {vs : List V} {xs : List D} {d : D} (h : DqAll K H vs xs) (e : xs.getLast? = some d) : ∃ v, vs[vs.length - 1]? = some v ∧ Dq K H v d := by
  rw [List.getLast?_eq_getElem?] at e
  rw [h.length]
  exact h.get e
theorem ds_asgPop {i : Nat} {tg : Expr} {ts : List Nat} {g : TGd} (h : PE X e (tBM0 X.K "list" rPop (tVar i))) (hg : DG X G tg ts g) (hs : swapsWithSole [tg] e pos.line X.env = pure false := by rfl) (hw : swappedStores [tg] e X.env = pure none := by rfl)
    (h1 : (assignEach [tg] X.env).map (·.2) = [assign tg X.env] := by rfl) : DS X G (.Assign [tg] e pos) (tdAsgPop g i) := by
  refine ⟨PS.imp (ps_asg h hg.pg hs hw h1) fun D' σ H h => ?_⟩
  obtain ⟨δ, E, S, h, l⟩ := h
  unfold tdAsgPop at h
  split at h
  · rename_i p xs hi
    obtain ⟨e1, e2, e3, vs, e4, e5⟩ := S.at_ i _ hi
    obtain ⟨d, hd, h⟩ := h
    obtain ⟨v, hv, dv⟩ := getLast_vs e5 hd
    refine ⟨_, e1, .inl ⟨rfl, _, SqL.of e4⟩, p, vs, v, rfl, rfl, e4, hv, ?_⟩
    have S2 := S.write hi (e5.dropLast)
    refine ⟨_, d, true, false, E.nx, _, S2, S2.env.refl, ⟨?_, (fun z => by cases z)⟩, h, fun δ' σ' S' _ h' => l.nx δ' σ' _ S' h'⟩
    show Dq X.K (hid (G.hd ++ addrs (δ.set i (.own p xs.dropLast))) _) v d
    rw [addrs_set_same hi]
    have hm : p ∈ addrs δ := mem_addrs.mpr ⟨i, xs, hi⟩
    exact dv.mono (hid_mono fun b o hn e => ⟨by rw [upd_ne (fun z => hn (by rw [z]; exact List.mem_append_right _ hm))]; exact e, hn⟩)
  · exact h.elim
def tdPop (i : Nat) : TSd := fun E δ => match δ[i]? with
  | some (.own p xs) => xs ≠ [] ∧ E.nx (δ.set i (.own p xs.dropLast))
  | _ => False
theorem ds_pop {i : Nat} (h : PE X e (tBM0 X.K "list" rPop (tVar i))) (hs : swapsWith e none pos.line X.env = pure false := by rfl) : DS X G (.Expr e pos) (tdPop i) := by
  refine ⟨PS.imp (ps_expr h hs) fun D' σ H h => ?_⟩
  obtain ⟨δ, E, S, h, l⟩ := h
  unfold tdPop at h
  split at h
  · rename_i p xs hi
    obtain ⟨e1, e2, e3, vs, e4, e5⟩ := S.at_ i _ hi
    obtain ⟨hne, h⟩ := h
    obtain ⟨v, hv, dv⟩ := getLast_vs e5 (List.getLast?_eq_some_getLast hne)
    refine ⟨_, e1, .inl ⟨rfl, _, SqL.of e4⟩, p, vs, v, rfl, rfl, e4, hv, ?_⟩
    exact l.nx _ _ _ (S.write hi e5.dropLast) h
  · exact h.elim
/-- x[k] = e, x an owned list -/
def tdSetIx (i : Nat) (tk t : TEd) : TSd := fun E δ => match δ[i]? with
  | some (.own p xs) => t δ fun d a _ => tk δ fun k _ _ => match k with
    | .int k => (a = true ∨ lf d = true) ∧ ∃ j, ixN xs.length k = some j ∧ E.nx (δ.set i (.own p (xs.set j d)))
    | _ => False
  | _ => False
theorem ds_setIx {i : Nat} {tk : TEd} {tg : Expr} (he : DE X G e t) (hg : PG X tg (gSub (tVar i) (lE X.K G tk) rSetL)) (hs : swapsWithSole [tg] e pos.line X.env = pure false := by rfl) (hw : swappedStores [tg] e X.env = pure none := by rfl)
    (h1 : (assignEach [tg] X.env).map (·.2) = [assign tg X.env] := by rfl) : DS X G (.Assign [tg] e pos) (tdSetIx i tk t) := by
  refine ⟨PS.imp (ps_asg he.pe hg hs hw h1) fun D' σ H h => ?_⟩
  obtain ⟨δ, E, S, h, l⟩ := h
  unfold tdSetIx at h
  split at h
  · rename_i p xs hi
    refine ⟨δ, _, S, h, fun v H1 d a f q1 d1 r1 => ?_⟩
    have S1 := S.quiet q1
    obtain ⟨e1, e2, e3, vs, e4, e5⟩ := S1.at_ i _ hi
    refine ⟨_, e1, δ, _, S1, r1, fun kv H2 k ak fk q2 d2 r2 => ?_⟩
    cases k with
    | int k =>
      obtain ⟨r2, j, hj, r3⟩ := r2
      have S2 := S1.quiet q2
      obtain ⟨_, _, _, vs2, e4', e5'⟩ := S2.at_ i _ hi
      cases d2.z
      refine ⟨p, vs2, k, j, rfl, rfl, e4', by rw [e5'.length]; exact hj, ?_⟩
      exact l.nx _ _ _ (S2.write hi (DqAll.set ((d1.apart S q1 r2).mono (q2.hs S1.env _)) j e5')) r3
    | _ => exact r2.elim
  · exact h.elim
/-- x += e of ints -/
def tdAug (i : Nat) (g : Int → Int → Int) (t : TEd) : TSd := fun E δ => match δ[i]? with
  | some (.d (.int m)) => t δ fun d _ _ => match d with
    | .int n => E.nx (δ.set i (.d (.int (g m n))))
    | _ => False
  | _ => False
theorem ds_aug (i : Nat) {x : Str} {op : Operator} {g : Int → Int → Int} {pos' : Pos} (hN : X.N.Nodup) (ho : PIp X op (ipI g)) (he : DE X G e t) (hi : X.N[i]? = some x := by rfl) (hx : Loc X.env.scope x := by first | exact Or.inl rfl | exact Or.inr rfl) (hf : X.fn x = true ∨ X.env.scope.names.lookup x = some .local := by first | exact .inl rfl | exact .inr rfl | assumption) :
    DS X G (.AugAssign (.Name x pos') op e pos) (tdAug i g t) := by
  refine ⟨PS.imp (ps_aug hN hi hx he.pe ho hf) fun D' σ H h => ?_⟩
  obtain ⟨δ, E, S, h, l⟩ := h
  unfold tdAug at h
  split at h
  · rename_i m hi
    obtain ⟨v, h1, h2⟩ := S.dat hi
    cases h2
    refine ⟨_, h1, δ, _, S, h, fun w H1 d a f q1 d1 r1 => ?_⟩
    cases d with
    | int n =>
      cases d1.z
      refine ⟨m, n, rfl, rfl, l.nx _ _ _ ((S.quiet q1).setD (.int _)) r1⟩
    | _ => exact r1.elim
  · exact h.elim
/-! ### while -/
def tdWhile (c : TTd) (tb : TSd) : TSd := fun E δ => ∃ W : Nat → List SD → Prop, (∃ m, W m δ) ∧ ∀ m δ, W m δ → c δ fun b => if b = true then tb { nx := fun δ' => ∃ m', m' < m ∧ W m' δ', ct := fun δ' => ∃ m', m' < m ∧ W m' δ', bk := E.nx, rt := E.rt } δ else E.nx δ
theorem ds_while {c : Expr} {body : List Stmt} {tc : TTd} {tb : TSd} (hp : PassesOwn (model X.prog X.w) X.A X.env X.xe) (hc : DT X G c tc) (hb : DSs X G body tb) : DS X G (.While c body [] pos) (tdWhile tc tb) := by
  refine ⟨PS.imp (ps_while hp hc.pt hb.pss) fun D' σ H h => ?_⟩
  obtain ⟨δ, E, S, ⟨W, ⟨m0, w0⟩, turn⟩, l⟩ := h
  refine ⟨fun m σ H => ∃ δ, SR X.K G δ σ H ∧ W m δ, ⟨m0, δ, S, w0⟩, fun m σ1 H1 ⟨δ1, S1, w1⟩ => ?_⟩
  refine ⟨δ1, _, S1, turn m δ1 w1, fun b H2 q2 r2 => ?_⟩
  by_cases hb : b = true
  · rw [if_pos hb] at r2 ⊢
    refine ⟨fun σ' H' => ∃ m', m' < m ∧ ∃ δ', SR X.K G δ' σ' H' ∧ W m' δ', fun σ' H' h => h, ?_⟩
    refine ⟨δ1, _, S1.quiet q2, r2, fun δ' σ' H' S' h' => ?_, l.rt, fun δ' σ' H' S' h' => l.nx δ' σ' H' S' h', fun δ' σ' H' S' h' => ?_⟩
    · obtain ⟨m', hm, w'⟩ := h'; exact ⟨m', hm, δ', S', w'⟩
    · obtain ⟨m', hm, w'⟩ := h'; exact ⟨m', hm, δ', S', w'⟩
  · rw [if_neg hb] at r2 ⊢
    exact l.nx δ1 σ1 H2 (S1.quiet q2) r2
end
/-! ### an inner part of a body: what is there at its start stays, but the owned lists -/
abbrev Gd.inn (G : Gd) (P : List Addr) (H : Hp) : Gd := { G with H0 := hid P H }
section
variable {K : PySem.W.Frag} {G : Gd} {δ δ0 : List SD} {σ σ0 : L2.St} {H H1 : Hp}
theorem SR.inn (S : SR K G δ σ H) : SR K (G.inn (addrs δ) H) δ σ H := by
  refine ⟨⟨S.env.src, S.env.slh, S.env.hdt, S.env.hdn, fun b o e n => (hid_some.mp e).2⟩, S.len, S.nd, fun i s hi => ?_⟩
  have x := S.at_ i s hi
  cases s with
  | own p xs =>
    obtain ⟨e1, e2, e3, r⟩ := x
    refine ⟨e1, e2, ?_, r⟩
    show hid (addrs δ) H p = none
    unfold hid
    rw [if_pos (mem_addrs.mpr ⟨i, xs, hi⟩)]
  | un => trivial
  | d y => exact x
  | src => exact x
  | raw v => exact x
theorem inn_none (S0 : SR K G δ0 σ0 H) {p : Addr} (hp : p ∉ G.hd) (h : (G.inn (addrs δ0) H).H0 p = none) : G.H0 p = none := by
  cases e : G.H0 p with
  | none => rfl
  | some o =>
    have h1 := S0.env.frm p o e fun z => hp (S0.env.slh p z)
    have h2 : p ∉ addrs δ0 := fun z => by rw [(S0.ownAt z).2.1] at e; cases e
    have h3 : hid (addrs δ0) H p = none := h
    rw [hid_ne h2, h1] at h3; cases h3
theorem EnvOk.out (S0 : SR K G δ0 σ0 H) (e : EnvOk (G.inn (addrs δ0) H) H1) : EnvOk G H1 :=
  ⟨e.src, e.slh, e.hdt, e.hdn, fun b o h n => by
    have h1 := S0.env.frm b o h n
    have h2 : b ∉ addrs δ0 := fun z => by rw [(S0.ownAt z).2.1] at h; cases h
    exact e.frm b o (hid_some.mpr ⟨h2, h1⟩) n⟩
theorem SR.out (S0 : SR K G δ0 σ0 H) (S : SR K (G.inn (addrs δ0) H) δ σ H1) : SR K G δ σ H1 := by
  refine ⟨S.env.out S0, S.len, S.nd, fun i s hi => ?_⟩
  have x := S.at_ i s hi
  cases s with
  | own p xs =>
    obtain ⟨e1, e2, e3, r⟩ := x
    exact ⟨e1, e2, inn_none S0 e2 e3, r⟩
  | un => trivial
  | d y => exact x
  | src => exact x
  | raw v => exact x
theorem Fr.out (S0 : SR K G δ0 σ0 H) {v : V} {d : D} (h : Fr K (G.inn (addrs δ0) H) (G.inn (addrs δ0) H).H0 v H1 d) : Fr K G G.H0 v H1 d := by
  obtain ⟨p, vs, ds, e1, ⟨e2, e2'⟩, r⟩ := h
  exact ⟨p, vs, ds, e1, ⟨inn_none S0 e2' e2, e2'⟩, r⟩
/-- what was apart at the start is apart later on -/
theorem SR.stay (S0 : SR K G δ0 σ0 H) (S : SR K (G.inn (addrs δ0) H) δ σ H1) : ∀ b o, b ∉ G.hd → b ∉ addrs δ0 → H b = some o → H1 b = some o ∧ b ∉ addrs δ := fun b o h1 h2 e => by
  have e0 : (G.inn (addrs δ0) H).H0 b = some o := hid_some.mpr ⟨h2, e⟩
  refine ⟨S.env.frm b o e0 fun z => h1 (S0.env.slh b z), fun z => ?_⟩
  rw [(S.ownAt z).2.1] at e0; cases e0
end
end DL

set_option Elab.async false
set_option linter.all false
set_option maxRecDepth 100000
set_option maxHeartbeats 4000000
namespace DL
open PySem PySem.Spec PyProof.Rows L2
/-! ### what is walked -/
/-- a list, a tuple or a text, whichever it is -/
def iAny (K : PySem.W.Frag) (tl : TE) : TI := fun σ H R => tl σ H fun x H1 =>
  (∃ a, x = .ref a ∧ (∃ xs, SqL K H1 a xs) ∧ R (Itl K a) H1) ∨ (∃ a, x = .ref a ∧ (∃ xs, SqT K H1 a xs) ∧ R (Itt K a) H1) ∨ ∃ z, x = .str z ∧ R (Its z) H1
section
variable {X : Cx} {tg : Expr} {pins : List (Addr × Obj)} {σ : L2.St} {H : Hp} {s : Shared} {R : It → Hp → Prop}
theorem itl_begin {a : Addr} (I : Inv X pins σ H s) (h : ∃ xs, SqL X.K H a xs) (q : R (Itl X.K a) H) : wpAny (model X.prog X.w) X.A (pyIter (.ref a)) (PIE X pins σ tg R) X.xe s := by
  obtain ⟨xs, hq⟩ := h
  obtain ⟨its, rv, pl, _⟩ := I.list hq
  refine wpAny_pyIter_list pl.isList ⟨s.heap.objs.size, [s.heap.objs.size], _, _, H, rfl, I.kept (t' := s.toks) fun b o e => Heap.get?_push_of_some _ e, turn_list a _, ⟨_, Heap.get?_push_size _ rfl, rfl, rfl⟩, fun b hb => ?_, q⟩
  obtain rfl : b = s.heap.objs.size := by simpa using hb
  exact I.fpOk (Nat.le_refl _) (I.hok.fresh (Nat.le_refl _))
theorem itt_begin {a : Addr} (I : Inv X pins σ H s) (h : ∃ xs, SqT X.K H a xs) (q : R (Itt X.K a) H) : wpAny (model X.prog X.w) X.A (pyIter (.ref a)) (PIE X pins σ tg R) X.xe s := by
  obtain ⟨xs, hq⟩ := h
  obtain ⟨its, rv, pl, _⟩ := I.tuple hq
  refine wpAny_pyIter_tuple (show s.heap.IsTuple a its.toArray from pl) ⟨s.heap.objs.size, [s.heap.objs.size], _, _, H, rfl, I.kept (t' := s.toks) fun b o e => Heap.get?_push_of_some _ e, turn_tuple a _, ⟨_, Heap.get?_push_size _ rfl, rfl, rfl⟩, fun b hb => ?_, q⟩
  obtain rfl : b = s.heap.objs.size := by simpa using hb
  exact I.fpOk (Nat.le_refl _) (I.hok.fresh (Nat.le_refl _))
end
theorem its_begin {X : Cx} {tg : Expr} {z : Str} {t : Tok} {pins : List (Addr × Obj)} {σ : L2.St} {H : Hp} {s : Shared} {R : It → Hp → Prop} (I : Inv X pins σ H s) (q : R (Its z) H) : wpAny (model X.prog X.w) X.A (pyIter (.str z t)) (PIE X pins σ tg R) X.xe s := by
  cases ha : z.cps.all (· < 128)
  · exact wpAny_pyIter_wide ha (pi_one (tk := s.toks) I _ (turn_str _ z t "str_iterator" (.inr rfl)) ⟨_, Heap.get?_push_size _ rfl, rfl, rfl⟩ q)
  · exact wpAny_pyIter_ascii ha (pi_one (tk := s.toks) I _ (turn_str _ z t "str_ascii_iterator" (.inl rfl)) ⟨_, Heap.get?_push_size _ rfl, rfl, rfl⟩ q)
theorem pi_any {X : Cx} {tg l : Expr} {tl : TE} (hl : PE X l tl) : PI X tg l (iAny X.K tl) := by
  refine ⟨fun pins s σ H R I h => ?_⟩
  refine thn (hl.run pins s σ H _ I h) fun v s1 ⟨x, H1, I1, r1, q1⟩ => ?_
  rcases q1 with ⟨a, rfl, hq, q⟩ | ⟨a, rfl, hq, q⟩ | ⟨z, rfl, q⟩
  · cases r1; exact itl_begin I1 hq q
  · cases r1; exact itt_begin I1 hq q
  · obtain ⟨t, rfl⟩ := r1; exact its_begin I1 q
/-- J gives ds, whatever else changes -/
def JGood (K : PySem.W.Frag) (G : Gd) (δ : List SD) (H1 : Hp) (J : It) (ds : List D) : Prop :=
  ∀ (H' : Hp) (P' : List Addr), (∀ b o, b ∉ G.hd → b ∉ addrs δ → H1 b = some o → H' b = some o ∧ b ∉ P') → (∀ b ∈ G.hd ++ P', ∃ o, H' b = some o) →
    (∀ i, i < ds.length → J.go i H') ∧ (∀ i, ds.length ≤ i → J.stop i H') ∧ ∀ i x H2, i < ds.length → J.yld i H' x H2 → Same H' H2 ∧ ∃ d, ds[i]? = some d ∧ Dq K (hid (G.hd ++ P') H2) x d
section
variable {K : PySem.W.Frag} {G : Gd} {δ : List SD} {H1 : Hp}
theorem stay_hid {H' : Hp} {P' : List Addr} (st : ∀ b o, b ∉ G.hd → b ∉ addrs δ → H1 b = some o → H' b = some o ∧ b ∉ P') : Same (hid (G.hd ++ addrs δ) H1) (hid (G.hd ++ P') H') := hid_mono fun b o hn e => by
  have n1 : b ∉ G.hd := fun z => hn (List.mem_append_left _ z)
  obtain ⟨h1, h2⟩ := st b o n1 (fun z => hn (List.mem_append_right _ z)) e
  exact ⟨h1, fun z => (List.mem_append.mp z).elim n1 h2⟩
theorem seqL_get {H : Hp} {a : Addr} {vs : List V} {ds : List D} {P : List Addr} (h : H a = some (.lst vs)) (hd : DqAll K (hid P H) vs ds) (i : Nat) (hi : i < ds.length) : ∃ x d, vs[i]? = some x ∧ ds[i]? = some d ∧ Dq K (hid P H) x d := by
  obtain ⟨v, h1, h2⟩ := hd.get (List.getElem?_eq_getElem hi)
  exact ⟨v, _, h1, List.getElem?_eq_getElem hi, h2⟩
theorem jgood_lst {a : Addr} {vs : List V} {ds : List D} (na : a ∉ G.hd) (na2 : a ∉ addrs δ) (h : H1 a = some (.lst vs)) (hd : DqAll K (hid (G.hd ++ addrs δ) H1) vs ds) : JGood K G δ H1 (Itl K a) ds := by
  intro H' P' st tr
  have h' := (st a _ na na2 h).1
  have hd' : DqAll K (hid (G.hd ++ P') H') vs ds := hd.mono (stay_hid st)
  refine ⟨fun i hi => ?_, fun i hi => ⟨vs, SqL.of h', by rw [hd.length]; exact hi⟩, fun i x H2 hi y => ?_⟩
  · obtain ⟨x, d, e1, e2, e3⟩ := seqL_get (P := G.hd ++ P') h' hd' i hi
    exact ⟨vs, x, SqL.of h', e1⟩
  · obtain ⟨rfl, y⟩ := y
    obtain ⟨x', d, e1, e2, e3⟩ := seqL_get (P := G.hd ++ P') h' hd' i hi
    have := y vs (SqL.of h')
    rw [e1] at this; cases this
    exact ⟨Same.refl _, d, e2, e3⟩
theorem sqT_stay {H' : Hp} {P' : List Addr} {a : Addr} {vs : List V} (st : ∀ b o, b ∉ G.hd → b ∉ addrs δ → H1 b = some o → H' b = some o ∧ b ∉ P') (h : SqT K (hid (G.hd ++ addrs δ) H1) a vs) : SqT K H' a vs := Same.sqT ((fun b o e => (hid_some.mp (stay_hid st b o e)).2)) h
theorem jgood_tup {a : Addr} {vs : List V} {ds : List D} (h : SqT K (hid (G.hd ++ addrs δ) H1) a vs) (hd : DqAll K (hid (G.hd ++ addrs δ) H1) vs ds) : JGood K G δ H1 (Itt K a) ds := by
  intro H' P' st tr
  have h' := sqT_stay st h
  have hd' : DqAll K (hid (G.hd ++ P') H') vs ds := hd.mono (stay_hid st)
  refine ⟨fun i hi => ?_, fun i hi => ⟨vs, h', by rw [hd.length]; exact hi⟩, fun i x H2 hi y => ?_⟩
  · obtain ⟨v, h1, h2⟩ := hd'.get (List.getElem?_eq_getElem hi)
    exact ⟨vs, v, h', h1⟩
  · obtain ⟨rfl, y⟩ := y
    obtain ⟨v, h1, h2⟩ := hd'.get (List.getElem?_eq_getElem hi)
    have := y vs h'
    rw [h1] at this; cases this
    exact ⟨Same.refl _, _, List.getElem?_eq_getElem hi, h2⟩
def rgD (lo : Int) (n : Nat) : List D := (List.range n).map fun i : Nat => PyData.int (lo + (i : Int))
theorem rgD_length (lo : Int) (n : Nat) : (rgD lo n).length = n := by unfold rgD; rw [List.length_map, List.length_range]
theorem rgD_get {lo : Int} {n i : Nat} (h : i < n) : (rgD lo n)[i]? = some (.int (lo + (i : Int))) := by
  unfold rgD
  rw [List.getElem?_map, List.getElem?_range h]
  rfl
theorem jgood_rng {lo : Int} {n : Nat} : JGood K G δ H1 (Itr lo n) (rgD lo n) := by
  intro H' P' st tr
  refine ⟨fun i hi => by rw [rgD_length] at hi; exact hi, fun i hi => by rw [rgD_length] at hi; exact hi, fun i x H2 hi y => ?_⟩
  obtain ⟨rfl, rfl⟩ := y
  rw [rgD_length] at hi
  exact ⟨Same.refl _, _, rgD_get hi, .int _⟩
def chD (z : Str) : List D := z.cps.toList.map fun c => PyData.str ⟨#[c]⟩
theorem jgood_str {z : Str} (hz : sok z) : JGood K G δ H1 (Its z) (chD z) := by
  intro H' P' st tr
  have hl : (chD z).length = z.cps.size := by unfold chD; simp
  refine ⟨fun i hi => by rw [hl] at hi; exact hi, fun i hi => by rw [hl] at hi; exact hi, fun i x H2 hi y => ?_⟩
  obtain ⟨rfl, c, hc, rfl⟩ := y
  refine ⟨Same.refl _, .str ⟨#[c]⟩, ?_, .str _ (sok_one hz (by rw [Array.mem_toList_iff]; exact Array.mem_of_getElem? hc))⟩
  unfold chD
  rw [List.getElem?_map, Array.getElem?_toList, hc]
  rfl
end
/-- the items, the slots behind it, whether these are as they were -/
abbrev TId := List SD → (List D → List SD → Bool → Prop) → Prop
def lI (K : PySem.W.Frag) (G : Gd) (t : TId) : TI := fun σ H R => ∃ δ R', SR K G δ σ H ∧ t δ R' ∧ ∀ J H1 δ1 ds b, Qs G H H1 → SR K G δ1 σ H1 → (b = true → δ1 = δ) → JGood K G δ1 H1 J ds → R' ds δ1 b → R J H1
structure DI (X : Cx) (G : Gd) (tg iter : Expr) (t : TId) : Prop where
  pi : PI X tg iter (lI X.K G t)
section
variable {X : Cx} {G : Gd} {pos : Pos} {e a b tg : Expr} {t ta tb : TEd}
/-- the items of a list, a tuple, a text that is reckoned -/
def tdIt (t : TEd) : TId := fun δ R => t δ fun d a f => match d with
  | .tuple xs => (a = true ∨ lfAll xs = true) ∧ R xs δ true
  | .list xs => if a = true then R xs δ true else if f = true then lfAll xs = true ∧ R xs δ true else R xs (δ.map DL.disown) false
  | .str z => R (chD z) δ true
  | _ => False
theorem di_any (h : DE X G e t) : DI X G tg e (tdIt t) := by
  refine ⟨PI.imp (pi_any h.pe) fun σ H R h => ?_⟩
  obtain ⟨δ, R', S, h, k⟩ := h
  refine ⟨δ, _, S, h, fun v H1 d a f q1 d1 r1 => ?_⟩
  have S1 := S.quiet q1
  cases d with
  | str z =>
    cases d1.z with
    | str _ hz => exact .inr (.inr ⟨z, rfl, k _ H1 δ _ true q1 S1 (fun _ => rfl) (jgood_str hz) r1⟩)
  | tuple xs =>
    obtain ⟨r0, r1⟩ := r1
    have z := d1.apart S q1 (r0.imp id fun h => by simpa [lf] using h)
    cases z with
    | @tup p vs _ hs hd => exact .inr (.inl ⟨p, rfl, ⟨vs, Same.sqT hid_same hs⟩, k _ H1 δ xs true q1 S1 (fun _ => rfl) (jgood_tup hs hd) r1⟩)
  | list xs =>
    have r1 : if a = true then R' xs δ true else if f = true then lfAll xs = true ∧ R' xs δ true else R' xs (δ.map DL.disown) false := r1
    by_cases ha : a = true
    · rw [if_pos ha] at r1
      cases d1.ap ha with
      | @lst p vs _ hs hd =>
      obtain ⟨n, hs'⟩ := hid_some.mp hs
      exact .inl ⟨p, rfl, ⟨vs, SqL.of hs'⟩, k _ H1 δ xs true q1 S1 (fun _ => rfl) (jgood_lst (fun z => n (List.mem_append_left _ z)) (fun z => n (List.mem_append_right _ z)) hs' hd) r1⟩
    · rw [if_neg ha] at r1
      by_cases hf : f = true
      · rw [if_pos hf] at r1
        obtain ⟨p, vs, ds, rfl, ⟨h0, n0⟩, h1, e, h2⟩ := d1.fr hf
        cases e
        have np := S.fresh h0
        exact .inl ⟨p, rfl, ⟨vs, SqL.of h1⟩, k _ H1 δ xs true q1 S1 (fun _ => rfl) (jgood_lst n0 (fun z => np (List.mem_append_right _ z)) h1 ((h2.mono hid_same).lf (tupK_hid S1.noP) r1.1)) r1.2⟩
      · rw [if_neg hf] at r1
        cases d1.q with
        | @lst p vs _ hs hd =>
        obtain ⟨n, hs'⟩ := hid_some.mp hs
        have hd' : DqAll X.K (hid (G.hd ++ addrs (δ.map DL.disown)) H1) vs xs := by rw [addrs_disown, List.append_nil]; exact hd
        exact .inl ⟨p, rfl, ⟨vs, SqL.of hs'⟩, k _ H1 _ xs false q1 S1.disown (fun z => by cases z) (jgood_lst n (by rw [addrs_disown]; exact fun z => by cases z) hs' hd') r1⟩
  | _ => exact r1.elim
/-- the items of what a name holds; an owned list is no longer changed -/
def tdItVar (i : Nat) : TId := fun δ R => match δ[i]? with
  | some (.d (.tuple xs)) => R xs δ true
  | some (.d (.list xs)) => R xs δ true
  | some (.d (.str z)) => R (chD z) δ true
  | some (.own _ xs) => R xs (δ.set i (.d (.list xs))) false
  | _ => False
theorem SR.freeze {K : PySem.W.Frag} {δ : List SD} {σ : L2.St} {H : Hp} (S : SR K G δ σ H) {i : Nat} {p : Addr} {xs : List D} (hi : δ[i]? = some (.own p xs)) : SR K G (δ.set i (.d (.list xs))) σ H ∧ p ∉ addrs (δ.set i (.d (.list xs))) := by
  obtain ⟨e1, e2, e3, vs, e4, e5⟩ := S.at_ i _ hi
  have ne : ∀ p ys, SD.d (.list xs) ≠ .own p ys := fun _ _ z => by cases z
  have np : p ∉ addrs (δ.set i (.d (.list xs))) := fun z => by
    obtain ⟨j, ys, hj⟩ := mem_addrs.mp z
    by_cases h : i = j
    · subst h
      have hl : i < δ.length := by
        rcases Nat.lt_or_ge i δ.length with q | q
        · exact q
        · rw [List.getElem?_eq_none q] at hi; cases hi
      rw [List.getElem?_set_self hl] at hj; cases hj
    · rw [List.getElem?_set_ne h] at hj
      rcases Nat.lt_or_gt_of_ne h with q | q
      · exact nd_two S.nd q hi hj
      · exact nd_two S.nd q hj hi
  refine ⟨⟨S.env, by rw [List.length_set]; exact S.len, nd_set_ne ne S.nd, fun j s hj => ?_⟩, np⟩
  by_cases h : i = j
  · subst h
    have hl : i < δ.length := by
      rcases Nat.lt_or_ge i δ.length with q | q
      · exact q
      · rw [List.getElem?_eq_none q] at hi; cases hi
    rw [List.getElem?_set_self hl] at hj
    cases hj
    refine ⟨_, e1, .lst (hid_some.mpr ⟨fun z => (List.mem_append.mp z).elim e2 np, e4⟩) (e5.mono (hid_mono fun b o hn e => ⟨e, fun z => hn ?_⟩))⟩
    rcases List.mem_append.mp z with z | z
    · exact List.mem_append_left _ z
    · exact List.mem_append_right _ (addrs_set_sub ne b z)
  · rw [List.getElem?_set_ne h] at hj
    exact (S.at_ j s hj).less (addrs_set_sub ne)
theorem di_var (i : Nat) {x : Str} (hN : X.N[i]? = some x := by rfl) (hv : Vis X.env.scope x := by first | exact Or.inl rfl | exact Or.inr (Or.inl rfl) | exact Or.inr (Or.inr rfl)) (hd : (x == ("__debug__" : Str)) = false := by decide)
    (hcd : (x == ("__classdict__" : Str)) = false := by decide) : DI X G tg (.Name x pos) (tdItVar i) := by
  refine ⟨PI.imp (pi_any (pe_var hN hv hd hcd)) fun σ H R h => ?_⟩
  obtain ⟨δ, R', S, h, k⟩ := h
  unfold tdItVar at h
  split at h
  · rename_i xs e
    obtain ⟨v, h1, h2⟩ := S.dat e
    cases h2 with
    | @tup p vs _ hs hd => exact ⟨_, h1, .inr (.inl ⟨p, rfl, ⟨vs, Same.sqT hid_same hs⟩, k _ H δ xs true S.env.refl S (fun _ => rfl) (jgood_tup hs hd) h⟩)⟩
  · rename_i xs e
    obtain ⟨v, h1, h2⟩ := S.dat e
    cases h2 with
    | @lst p vs _ hs hd =>
    obtain ⟨n, hs'⟩ := hid_some.mp hs
    exact ⟨_, h1, .inl ⟨p, rfl, ⟨vs, SqL.of hs'⟩, k _ H δ xs true S.env.refl S (fun _ => rfl) (jgood_lst (fun z => n (List.mem_append_left _ z)) (fun z => n (List.mem_append_right _ z)) hs' hd) h⟩⟩
  · rename_i z e
    obtain ⟨v, h1, h2⟩ := S.dat e
    cases h2 with
    | str _ hz => exact ⟨_, h1, .inr (.inr ⟨z, rfl, k _ H δ _ true S.env.refl S (fun _ => rfl) (jgood_str hz) h⟩)⟩
  · rename_i p xs e
    obtain ⟨S', np⟩ := S.freeze e
    obtain ⟨e1, e2, e3, vs, e4, e5⟩ := S.at_ i _ e
    have ne : ∀ p ys, SD.d (.list xs) ≠ .own p ys := fun _ _ z => by cases z
    exact ⟨_, e1, .inl ⟨p, rfl, ⟨vs, SqL.of e4⟩, k _ H _ xs false S.env.refl S' (fun z => by cases z) (jgood_lst e2 np e4 (e5.mono (hid_mono fun b o hn e => ⟨e, fun z => hn (by
      rcases List.mem_append.mp z with z | z
      · exact List.mem_append_left _ z
      · exact List.mem_append_right _ (addrs_set_sub ne b z))⟩))) h⟩⟩
  · exact h.elim
/-- range(n), range(m, n) -/
def tdRg1 (t : TEd) : TId := fun δ R => t δ fun d _ _ => match d with
  | .int n => -(2 ^ 62) ≤ n ∧ n < 2 ^ 62 ∧ R (rgD 0 n.toNat) δ true
  | _ => False
def tdRg2 (ta tb : TEd) : TId := fun δ R => ta δ fun d _ _ => tb δ fun e _ _ => match d, e with
  | .int m, .int n => (-(2 ^ 62) ≤ m ∧ m < 2 ^ 62 ∧ -(2 ^ 62) ≤ n ∧ n < 2 ^ 62) ∧ R (rgD m (n - m).toNat) δ true
  | _, _ => False
theorem di_rg1 {p : Pos} (hm : X.mg "range" = none) (h : DE X G a t) (hg : Gl X "range" := by rfl) (hs : starEach [a] X.env = [(false, eval a X.env)] := by rfl) (hs' : starEach [a] X.env = (false, eval a X.env) :: starEach [] X.env := by rfl) : DI X G tg (.Call (.Name "range" p) [a] [] pos) (tdRg1 t) := by
  refine ⟨PI.imp (pi_range1 hg hm (pa_cons h.pe pa_nil hs') hs) fun σ H R h => ?_⟩
  obtain ⟨δ, R', S, h, k⟩ := h
  refine ⟨δ, _, S, h, fun v H1 d a f q1 d1 r1 => ?_⟩
  cases d with
  | int n =>
    cases d1.z
    exact ⟨n, rfl, r1.1, r1.2.1, k _ H1 δ _ true q1 (S.quiet q1) (fun _ => rfl) jgood_rng r1.2.2⟩
  | _ => exact r1.elim
theorem di_rg2 {p : Pos} (hm : X.mg "range" = none) (h : DE X G a ta) (h2 : DE X G b tb) (hg : Gl X "range" := by rfl) (hs : starEach [a, b] X.env = [(false, eval a X.env), (false, eval b X.env)] := by rfl) (hs2 : starEach [b] X.env = [(false, eval b X.env)] := by rfl)
    (hs' : starEach [a, b] X.env = (false, eval a X.env) :: starEach [b] X.env := by rfl) (hs2' : starEach [b] X.env = (false, eval b X.env) :: starEach [] X.env := by rfl) : DI X G tg (.Call (.Name "range" p) [a, b] [] pos) (tdRg2 ta tb) := by
  refine ⟨PI.imp (pi_range2 hg hm (pa_cons h.pe (pa_cons h2.pe pa_nil hs2') hs') hs hs2) fun σ H R h => ?_⟩
  obtain ⟨δ, R', S, h, k⟩ := h
  refine ⟨δ, _, S, h, fun v H1 d a f q1 d1 r1 => ⟨δ, _, S.quiet q1, r1, fun v2 H2 d2 a2 f2 q2 d2' r2 => ?_⟩⟩
  cases d with
  | int m =>
    cases d2 with
    | int n =>
      cases d1.z
      cases d2'.z
      exact ⟨m, n, rfl, r2.1, k _ H2 δ _ true (q1.trans q2) ((S.quiet q1).quiet q2) (fun _ => rfl) jgood_rng r2.2⟩
    | _ => exact r2.elim
  | _ => cases d2 <;> exact r2.elim
end
end DL

set_option Elab.async false
set_option linter.all false
set_option maxRecDepth 100000
set_option maxHeartbeats 4000000
namespace DL
open PySem PySem.Spec PyProof.Rows L2
/-! ### for -/
def forGo (g : TGd) (tb : TSd) (E : DEnds) : List D → List SD → Prop
  | [], δ => E.nx δ
  | x :: xs, δ => g x true false δ fun δ2 => tb { nx := forGo g tb E xs, ct := forGo g tb E xs, bk := E.nx, rt := E.rt } δ2
def tdFor (ti : TId) (g : TGd) (tb : TSd) : TSd := fun E δ => ti δ fun ds δ1 _ => forGo g tb E ds δ1
section
variable {X : Cx} {G : Gd} {pos : Pos} {e a b tg iter : Expr} {t ta tb : TEd}
theorem ds_for {ti : TId} {g : TGd} {tb : TSd} {ts : List Nat} {body : List Stmt} (hp : PassesOwn (model X.prog X.w) X.A X.env X.xe) (hc : X.calm = true) (hi : DI X G tg iter ti) (hg : ∀ G', DG X G' tg ts g) (hb : ∀ G', DSs X G' body tb)
    (hs : ∀ x, foldedSetIterable iter X.env x = pure x := by intro _; rfl) : DS X G (.For tg iter body [] pos) (tdFor ti g tb) := by
  have hg' : PG X tg (fun v σ H Q => ∃ G', lG X.K G' ts g v σ H Q) := ⟨fun pins s σ H v u Q I r h => by obtain ⟨G', h⟩ := h; exact (hg G').pg.run pins s σ H v u Q I r h⟩
  have hb' : PSs X body (fun D' σ H => ∃ G', lS X.K G' tb D' σ H) := ⟨fun pins s σ H D' I h => by obtain ⟨G', h⟩ := h; exact (hb G').pss.run pins s σ H D' I h⟩
  refine ⟨PS.imp (ps_for hp hc hi.pi hg' hb' hs) fun D' σ H h => ?_⟩
  obtain ⟨δ, E, S, h, l⟩ := h
  refine ⟨δ, _, S, h, fun J H1 δ1 ds _ q1 S1 _ jg go => ?_⟩
  refine ⟨fun i m σ H => m = ds.length - i ∧ i ≤ ds.length ∧ ∃ δ, SR X.K (G.inn (addrs δ1) H1) δ σ H ∧ forGo g tb E (ds.drop i) δ, ⟨_, rfl, Nat.zero_le _, δ1, S1.inn, go⟩, fun i m σ2 H2 ⟨em, hle, δ2, S2, go2⟩ => ?_⟩
  subst em
  obtain ⟨j1, j2, j3⟩ := jg H2 (addrs δ2) (S1.stay S2) fun b hb => (List.mem_append.mp hb).elim (S2.env.hdt b) fun z => by
    obtain ⟨_, _, vs, e⟩ := S2.ownAt z
    exact ⟨_, e⟩
  by_cases hlt : i < ds.length
  · refine .inr ⟨j1 i hlt, fun σ' H' => ∃ δ, SR X.K (G.inn (addrs δ1) H1) δ σ' H' ∧ forGo g tb E (ds.drop (i + 1)) δ, fun σ' H' h' => ⟨_, by omega, rfl, hlt, h'⟩, fun x H3 y => ?_⟩
    obtain ⟨sm, d, hd, dq⟩ := j3 i x H3 hlt y
    have ed : ds.drop i = d :: ds.drop (i + 1) := by
      rw [List.drop_eq_getElem_cons hlt]
      rw [List.getElem?_eq_getElem hlt] at hd
      rw [Option.some.inj hd]
    rw [ed] at go2
    have q3 := S2.env.same sm
    refine ⟨_, δ2, d, true, false, _, H2, S2, q3, ⟨dq, fun z => by cases z⟩, go2, fun δ3 σ3 S3 _ go3 => ?_⟩
    refine ⟨_, δ3, _, S3, go3, fun δ4 σ4 H4 S4 r4 => ⟨δ4, S4, r4⟩, fun v H4 d4 f4 e4 q4 fr4 r4 => ?_, fun δ4 σ4 H4 S4 r4 => l.nx δ4 σ4 H4 (S1.out S4) r4, fun δ4 σ4 H4 S4 r4 => ⟨δ4, S4, r4⟩⟩
    exact l.rt v H4 d4 f4 (EnvOk.out S1 e4) q4 (fun z => Fr.out S1 (fr4 z)) r4
  · have ei : i = ds.length := by omega
    subst ei
    rw [List.drop_length] at go2
    exact .inl ⟨j2 _ (Nat.le_refl _), l.nx δ2 σ2 H2 (S1.out S2) go2⟩
/-! ### comprehensions -/
structure DTs (X : Cx) (G : Gd) (ifs : List Expr) (t : TTd) : Prop where
  pts : PTs X ifs (lT X.K G t)
theorem dts_nil : DTs X G [] (fun _ R => R true) := ⟨⟨fun pins s σ H Q I h => by
  obtain ⟨δ, R, S, h, k⟩ := h
  exact pts_nil.run pins s σ H Q I (k true H S.env.refl h)⟩⟩
theorem dts_one {c : Expr} {t : TTd} (h : DT X G c t) : DTs X G [c] t := ⟨pts_one h.pt⟩
def lcGo (g : TGd) (tt : TTd) (te : TEd) (δ : List SD) : List D → List D → Bool → (List D → Bool → Prop) → Prop
  | [], acc, a, R => R acc a
  | x :: xs, acc, a, R => g x true false δ fun δ2 => addrs δ2 = addrs δ ∧ tt δ2 fun b => if b = true then te δ2 fun y ya _ => acc.length < sizeLine ∧ lcGo g tt te δ xs (acc ++ [y]) (a && ya) R else lcGo g tt te δ xs acc a R
def wipeD (δ : List SD) : List Nat → List SD
  | [] => δ
  | v :: vs => (wipeD δ vs).set v .un
/-- [e for .. in .. if ..]: no slot of its own holds an owned list -/
def tdLc (ti : TId) (g : TGd) (tt : TTd) (te : TEd) (vs : List Nat) : TEd := fun δ R => ti δ fun ds δ1 b => addrs (wipeD δ1 vs) = addrs δ1 ∧ lcGo g tt te (wipeD δ1 vs) ds [] true fun acc a => R (.list acc) (a && b) true
theorem wipe_get {σ : L2.St} : ∀ {vs : List Nat} {j : Nat}, j ∉ vs → (wipe σ vs)[j]? = σ[j]?
  | [], _, _ => rfl
  | v :: vs, j, h => by
    have h' : j ≠ v ∧ j ∉ vs := by simpa using h
    show ((wipe σ vs).set v none)[j]? = _
    rw [List.getElem?_set_ne (Ne.symm h'.1), wipe_get h'.2]
theorem wipe_in {σ : L2.St} : ∀ {vs : List Nat} {j : Nat}, j ∈ vs → j < σ.length → (wipe σ vs)[j]? = some none
  | v :: vs, j, h, hl => by
    show ((wipe σ vs).set v none)[j]? = _
    by_cases e : v = j
    · subst e
      rw [List.getElem?_set_self (by rw [wipe_length]; exact hl)]
    · rw [List.getElem?_set_ne e]
      have h' : j ∈ vs := by
        rcases List.mem_cons.mp h with z | z
        · exact absurd z.symm e
        · exact z
      exact wipe_in h' hl
theorem wipe_but {σ σ' : L2.St} {vs ts : List Nat} (h : But ts (wipe σ vs) σ') (hs : ∀ t ∈ ts, t ∈ vs) : wipe σ' vs = wipe σ vs := by
  have hl : σ'.length = σ.length := h.1.trans (wipe_length σ vs)
  apply List.ext_getElem?
  intro j
  by_cases hj : j ∈ vs
  · by_cases hlt : j < σ.length
    · rw [wipe_in hj hlt, wipe_in hj (by rw [hl]; exact hlt)]
    · rw [List.getElem?_eq_none (by rw [wipe_length]; omega), List.getElem?_eq_none (by rw [wipe_length]; omega)]
  · rw [wipe_get hj, h.2 j fun z => hj (hs j z), wipe_get hj]
  done
theorem SR.wipe {K : PySem.W.Frag} {δ : List SD} {σ : L2.St} {H : Hp} (S : SR K G δ σ H) : ∀ (vs : List Nat), SR K G (wipeD δ vs) (wipe σ vs) H ∧ ∀ p, p ∈ addrs (wipeD δ vs) → p ∈ addrs δ
  | [] => ⟨S, fun _ h => h⟩
  | v :: vs => by
    obtain ⟨S1, h1⟩ := SR.wipe S vs
    have ne : ∀ p xs, SD.un ≠ .own p xs := fun _ _ z => by cases z
    refine ⟨⟨S1.env, ?_, nd_set_ne ne S1.nd, fun j s hj => ?_⟩, fun p hp => h1 p (addrs_set_sub ne p hp)⟩
    · show ((wipeD δ vs).set v .un).length = ((L2.wipe σ vs).set v none).length
      rw [List.length_set, List.length_set]; exact S1.len
    · show Slot K G (addrs ((wipeD δ vs).set v .un)) H s ((L2.wipe σ vs).set v none)[j]?
      have hj : ((wipeD δ vs).set v .un)[j]? = some s := hj
      by_cases e : v = j
      · subst e
        have hl : v < (wipeD δ vs).length := by
          rcases Nat.lt_or_ge v (wipeD δ vs).length with q | q
          · exact q
          · rw [List.getElem?_eq_none (by simpa using q)] at hj; cases hj
        rw [List.getElem?_set_self hl] at hj
        cases hj
        trivial
      · rw [List.getElem?_set_ne e] at hj ⊢
        exact (S1.at_ j s hj).less (addrs_set_sub ne)
theorem hP_and1 {G : Gd} {P : List Addr} {H : Hp} (a b : Bool) : Same (hid (hP G P a) H) (hid (hP G P (a && b)) H) := by
  cases a with
  | true => cases b with
    | true => exact Same.refl _
    | false => exact hid_drop
  | false => exact Same.refl _
theorem hP_and2 {G : Gd} {P : List Addr} {H : Hp} (a b : Bool) : Same (hid (hP G P b) H) (hid (hP G P (a && b)) H) := by
  cases a with
  | true => exact Same.refl _
  | false => exact hP_same b
theorem hP_mem {G : Gd} {P : List Addr} {p : Addr} {a : Bool} (h : p ∈ G.hd) : p ∈ hP G P a := by
  cases a with
  | true => exact List.mem_append_left _ h
  | false => exact h
theorem hP_step {G : Gd} {P : List Addr} {H H' : Hp} {a : Bool} (e : EnvOk G H) (q : Qs G H H') : Same (hid (hP G P a) H) (hid (hP G P a) H') := by
  cases a with
  | true => exact q.hs e P
  | false => exact q.hs0 e
theorem hid_touch {P : List Addr} {H : Hp} {p : Addr} {o : HO} (h : p ∈ P) : Same (hid P H) (hid P (upd H p o)) := hid_mono fun b u hn e => ⟨by rw [upd_ne (fun z => hn (by rw [z]; exact h))]; exact e, hn⟩
/-- a hidden list written -/
theorem SR.touch {K : PySem.W.Frag} {G : Gd} {δ : List SD} {σ : L2.St} {H : Hp} {p : Addr} {ws : List V} (S : SR K G δ σ H) (h1 : p ∈ G.hd) (h2 : p ∉ G.sl) (h3 : G.H0 p = none) : SR K G δ σ (upd H p (.lst ws)) := by
  refine ⟨⟨fun a lc e => ?_, S.env.slh, fun b hb => ?_, fun b hb => ?_, fun b o e n => ?_⟩, S.len, S.nd, fun i s hi => (S.at_ i s hi).mono (hid_touch (List.mem_append_left _ h1)) fun q xs vs e e4 => ?_⟩
  · have hn : ∀ b ∈ [a, lc], b ≠ p := fun b hb z => h2 (by rw [← z]; unfold Gd.sl; rw [e]; exact hb)
    obtain ⟨⟨c, l, m, t, e1, e2, e3⟩⟩ := S.env.src a lc e
    exact ⟨⟨c, l, m, t, by rw [upd_ne (hn a (by simp))]; exact e1, by rw [upd_ne (hn lc (by simp))]; exact e2, e3⟩⟩
  · by_cases z : b = p
    · rw [z]; exact ⟨_, upd_same⟩
    · rw [upd_ne z]; exact S.env.hdt b hb
  · by_cases z : b = p
    · rw [z]; exact noTup_lst upd_same
    · obtain ⟨o, e⟩ := S.env.hdt b hb
      exact (S.env.hdn b hb).keep e (by rw [upd_ne z]; exact e)
  · have nb : b ≠ p := fun z => by rw [z, h3] at e; cases e
    rw [upd_ne nb]; exact S.env.frm b o e n
  · subst e
    have : q ≠ p := fun z => by
      have := (S.at_ i _ hi).2.1
      rw [z] at this; exact this h1
    rw [upd_ne this]; exact e4
/-- what the reading of a comprehension's list wants, from the data's -/
theorem lc_read {K : PySem.W.Frag} {ti : TId} {g : TGd} {tt : TTd} {te : TEd} {vs ts : List Nat} (hts : ∀ t ∈ ts, t ∈ vs) {σ : L2.St} {H : Hp} {Q : VK} (h : lE K G (tdLc ti g tt te vs) σ H Q) :
    tLc (lI K G ti) (fun v σ H Q => ∃ G', lG K G' ts g v σ H Q) (fun σ H Q => ∃ G', lT K G' tt σ H Q) (fun σ H Q => ∃ G', lE K G' te σ H Q) vs σ H Q := by
  obtain ⟨δ, R, S, h, k⟩ := h
  refine ⟨δ, _, S, h, fun J H1 δ1 ds b q1 S1 hb jg ⟨ha, go⟩ D hD => ?_⟩
  obtain ⟨Sw, hw⟩ := S1.wipe vs
  have qD : Qs G H1 (upd H1 D (.lst [])) := S1.env.new hD _
  have nD : D ∉ G.hd ++ addrs δ1 := S1.fresh hD
  have Sw0 : SR K (G.also D) (wipeD δ1 vs) (wipe σ vs) (upd H1 D (.lst [])) := Sw.also qD hD upd_same
  -- the invariant
  refine ⟨fun i m H => m = ds.length - i ∧ i ≤ ds.length ∧ SR K (G.also D) (wipeD δ1 vs) (wipe σ vs) H ∧ Qs G H1 H ∧ ∃ accV accD a, H D = some (.lst accV) ∧ DqAll K (hid (hP (G.also D) (addrs δ1) a) H) accV accD ∧ lcGo g tt te (wipeD δ1 vs) (ds.drop i) accD a fun acc a => R (.list acc) (a && b) true,
    ⟨_, rfl, Nat.zero_le _, Sw0, qD, [], [], true, upd_same, .nil, go⟩, fun i m H2 ⟨em, hle, S2, q2, accV, accD, a, eD, dD, go2⟩ => ?_⟩
  subst em
  have stay : ∀ b o, b ∉ G.hd → b ∉ addrs δ1 → H1 b = some o → H2 b = some o ∧ b ∉ addrs δ1 := fun b o n1 n2 e => ⟨q2.st b o e fun z => n1 (S1.env.slh b z), n2⟩
  obtain ⟨j1, j2, j3⟩ := jg H2 (D :: addrs δ1) (fun b o n1 n2 e => ⟨(stay b o n1 n2 e).1, fun z => by
    rcases List.mem_cons.mp z with z | z
    · rw [z, hD] at e; cases e
    · exact n2 z⟩) fun b hb => by
    rcases List.mem_append.mp hb with z | z
    · exact S2.env.hdt b (List.mem_cons_of_mem _ z)
    · rcases List.mem_cons.mp z with z | z
      · rw [z]; exact ⟨_, eD⟩
      · rw [← ha] at z
        obtain ⟨_, _, vs, e⟩ := S2.ownAt z
        exact ⟨_, e⟩
  by_cases hlt : i < ds.length
  · refine .inr ⟨j1 i hlt, fun H' => SR K (G.also D) (wipeD δ1 vs) (wipe σ vs) H' ∧ Qs G H1 H' ∧ ∃ accV accD a, H' D = some (.lst accV) ∧ DqAll K (hid (hP (G.also D) (addrs δ1) a) H') accV accD ∧ lcGo g tt te (wipeD δ1 vs) (ds.drop (i + 1)) accD a fun acc a => R (.list acc) (a && b) true,
      fun H' h' => ⟨_, by omega, rfl, hlt, h'⟩, fun x H3 y => ?_⟩
    obtain ⟨sm, d, hd, dq⟩ := j3 i x H3 hlt y
    have ed : ds.drop i = d :: ds.drop (i + 1) := by
      rw [List.drop_eq_getElem_cons hlt]
      rw [List.getElem?_eq_getElem hlt] at hd
      rw [Option.some.inj hd]
    rw [ed] at go2
    have q3 : Qs (G.also D) H2 H3 := S2.env.same sm
    have S3 := S2.quiet q3
    have nsl : D ∉ G.sl := fun z => nD (List.mem_append_left _ (S1.env.slh D z))
    have dq' : Dq K (hid ((G.also D).hd ++ addrs (wipeD δ1 vs)) H3) x d := by
      rw [ha]
      exact dq.mono (hid_mono fun b o hn e => ⟨e, fun z => hn (by
        rcases List.mem_append.mp z with z | z
        · rcases List.mem_cons.mp z with z | z
          · rw [z]; exact List.mem_append_right _ List.mem_cons_self
          · exact List.mem_append_left _ z
        · exact List.mem_append_right _ (List.mem_cons_of_mem _ z))⟩)
    refine ⟨G.also D, wipeD δ1 vs, d, true, false, _, H2, S2, q3, ⟨dq', fun z => by cases z⟩, go2, fun δ4 σ4 S4 bt ⟨ea, go4⟩ => ⟨wipe_but bt hts, ?_⟩⟩
    refine ⟨G.also D, δ4, _, S4, go4, fun bb H4 q4 r4 => ?_⟩
    have q24 : Qs (G.also D) H2 H4 := q3.trans q4
    have S24 := S2.quiet q24
    dsimp only
    by_cases hbb : bb = true
    · rw [if_pos hbb] at r4 ⊢
      refine ⟨G.also D, δ4, _, S4.quiet q4, r4, fun y H5 dy ya f q5 vy ⟨hz, r5⟩ => ?_⟩
      have q25 := q24.trans q5
      have eD5 : H5 D = some (.lst accV) := q25.st D _ eD nsl
      have S25 := S2.quiet q25
      have S6 := S25.touch (ws := accV ++ [y]) List.mem_cons_self nsl (S1.env.fresh0 hD).1
      have e4 : addrs δ4 = addrs δ1 := ea.trans ha
      refine ⟨accV, eD5, by rw [dD.length]; exact hz, S6, ⟨fun b o e n => ?_, S6.env.src⟩, accV ++ [y], accD ++ [dy], a && ya, upd_same, ?_, r5⟩
      · have nb : b ≠ D := ne_of_none e hD
        rw [upd_ne nb]
        exact q25.st b o (q2.st b o e n) n
      · have hm : ∀ c, D ∈ hP (G.also D) (addrs δ1) c := fun c => hP_mem List.mem_cons_self
        refine DqAll.append ?_ (.cons ?_ .nil)
        · exact ((dD.mono (hP_step S2.env q25)).mono (hP_and1 a ya)).mono (hid_touch (hm _))
        · have vz := vy.z
          rw [e4] at vz
          exact (vz.mono (hP_and2 a ya)).mono (hid_touch (hm _))
    · rw [if_neg hbb] at r4 ⊢
      refine ⟨S24, ⟨fun b o e n => q24.st b o (q2.st b o e n) n, S24.env.src⟩, accV, accD, a, q24.st D _ eD nsl, dD.mono (hP_step S2.env q24), r4⟩
  · have ei : i = ds.length := by omega
    subst ei
    rw [List.drop_length] at go2
    refine .inl ⟨j2 _ (Nat.le_refl _), k (.ref D) H2 _ (a && b) true (q1.trans q2) ?_ go2⟩
    refine .of (.lst (hid_some.mpr ⟨fun z => nD (List.mem_append_left _ z), eD⟩) (dD.mono (hid_mono fun b o hn e => ⟨e, fun z => hn (hP_mem (List.mem_cons_of_mem _ z))⟩))) (fun hab => ?_) fun _ => ?_
    · have hab' : a = true ∧ b = true := by simpa using hab
      have ed := hb hab'.2
      subst ed
      rw [hab'.1] at dD
      exact .lst (hid_some.mpr ⟨nD, eD⟩) (dD.mono (hid_mono fun b o hn e => ⟨e, fun z => hn (by
        rcases List.mem_append.mp z with z | z
        · exact List.mem_append_left _ (List.mem_cons_of_mem _ z)
        · exact List.mem_append_right _ z)⟩))
    · refine ⟨D, accV, accD, rfl, ⟨q1.none S.env hD, fun z => nD (List.mem_append_left _ z)⟩, eD, rfl, dD.mono (hP_same (G := G.also D) a)⟩
theorem PE.or {X : Cx} {e : Expr} {t : Gd → TE} (h : ∀ G, PE X e (t G)) : PE X e (fun σ H Q => ∃ G, t G σ H Q) := ⟨fun pins s σ H Q I h' => by obtain ⟨G, h'⟩ := h'; exact (h G).run pins s σ H Q I h'⟩
theorem PTs.or {X : Cx} {e : List Expr} {t : Gd → TT} (h : ∀ G, PTs X e (t G)) : PTs X e (fun σ H Q => ∃ G, t G σ H Q) := ⟨fun pins s σ H Q I h' => by obtain ⟨G, h'⟩ := h'; exact (h G).run pins s σ H Q I h'⟩
theorem PG.or {X : Cx} {e : Expr} {t : Gd → TG} (h : ∀ G, PG X e (t G)) : PG X e (fun v σ H Q => ∃ G, t G v σ H Q) := ⟨fun pins s σ H v u Q I r h' => by obtain ⟨G, h'⟩ := h'; exact (h G).run pins s σ H v u Q I r h'⟩
theorem de_lc {elt tg iter : Expr} {ifs : List Expr} {scope : Scope} {own : List (Str × Nat)} {ti : TId} {g : TGd} {tt : TTd} {te : TEd} {ts : List Nat} (hc : X.calm = true) (hN : X.N.Nodup) (ok : BlkOk X.N X.env.scope scope own) (hi : DI X G tg iter ti)
    (hg : ∀ (s : Shared) (H : Hp) (C : Addr) (cl : List (Str × Addr)) (fp : List Addr) (G' : Gd), DG (X.blk s H scope (compEnvC scope cl C X.env) fp) G' tg ts g)
    (ht : ∀ (s : Shared) (H : Hp) (C : Addr) (cl : List (Str × Addr)) (fp : List Addr) (G' : Gd), DTs (X.blk s H scope (compEnvC scope cl C X.env) fp) G' ifs tt)
    (he : ∀ (s : Shared) (H : Hp) (C : Addr) (cl : List (Str × Addr)) (fp : List Addr) (G' : Gd), DE (X.blk s H scope (compEnvC scope cl C X.env) fp) G' elt te) (hs : ∀ x, foldedSetIterable iter X.env x = pure x := by intro _; rfl) (hts : ∀ t ∈ ts, t ∈ own.map (·.2) := by decide) :
    DE X G (.ListComp elt [⟨tg, iter, ifs, 0⟩] scope pos) (tdLc ti g tt te (own.map (·.2))) :=
  ⟨PE.imp (pe_lc hc hN hi.pi ok (fun s H C cl fp => PG.or (t := fun G' => lG X.K G' ts g) fun G' => (hg s H C cl fp G').pg) (fun s H C cl fp => PTs.or (t := fun G' => lT X.K G' tt) fun G' => (ht s H C cl fp G').pts) (fun s H C cl fp => PE.or (t := fun G' => lE X.K G' te) fun G' => (he s H C cl fp G').pe) hs) fun σ H Q h => lc_read hts h⟩
/-- y = [..] on one line -/
theorem ds_setLc (i : Nat) {y : Str} {py : Pos} {spos : Pos} {elt tg iter : Expr} {ifs : List Expr} {scope : Scope} {own : List (Str × Nat)} {ti : TId} {g : TGd} {tt : TTd} {te : TEd} {ts : List Nat} (hc : X.calm = true) (hN : X.N.Nodup) (hsw : swapsWith (.ListComp elt [⟨tg, iter, ifs, 0⟩] scope pos) (some (.Name y py)) spos.line X.env = pure true)
    (ok : BlkOk X.N X.env.scope scope own) (hi : DI X G tg iter ti)
    (hg : ∀ (s : Shared) (H : Hp) (C : Addr) (cl : List (Str × Addr)) (fp : List Addr) (G' : Gd), DG (X.blk s H scope (compEnvC scope cl C X.env) fp) G' tg ts g)
    (ht : ∀ (s : Shared) (H : Hp) (C : Addr) (cl : List (Str × Addr)) (fp : List Addr) (G' : Gd), DTs (X.blk s H scope (compEnvC scope cl C X.env) fp) G' ifs tt)
    (he : ∀ (s : Shared) (H : Hp) (C : Addr) (cl : List (Str × Addr)) (fp : List Addr) (G' : Gd), DE (X.blk s H scope (compEnvC scope cl C X.env) fp) G' elt te) (hy : X.N[i]? = some y := by rfl) (hyl : X.env.scope.names.lookup y = some .local := by rfl) (hs : ∀ x, foldedSetIterable iter X.env x = pure x := by intro _; rfl) (hts : ∀ t ∈ ts, t ∈ own.map (·.2) := by decide) :
    DS X G (.Assign [.Name y py] (.ListComp elt [⟨tg, iter, ifs, 0⟩] scope pos) spos) (tdSet i (tdLc ti g tt te (own.map (·.2)))) := by
  refine ⟨PS.imp (ps_setLc hc hN hy hyl hsw hi.pi ok (fun s H C cl fp => PG.or (t := fun G' => lG X.K G' ts g) fun G' => (hg s H C cl fp G').pg) (fun s H C cl fp => PTs.or (t := fun G' => lT X.K G' tt) fun G' => (ht s H C cl fp G').pts) (fun s H C cl fp => PE.or (t := fun G' => lE X.K G' te) fun G' => (he s H C cl fp G').pe) hs) fun D' σ H h => ?_⟩
  obtain ⟨δ, E, S, h, l⟩ := h
  refine lc_read (K := X.K) (G := G) hts ⟨δ, _, S, h, fun v H1 d a f q1 d1 r1 => ?_⟩
  obtain ⟨δ', S', h', _⟩ := S.put q1 d1 r1
  exact l.nx δ' _ H1 S' h'
end
end DL

set_option Elab.async false
set_option linter.all false
set_option maxRecDepth 100000
set_option maxHeartbeats 4000000
namespace DL
open PySem PySem.Spec PyProof.Rows L2
/-! ### defs whose callers are in no repr: FnOk's twin -/
abbrev Bare (A : Around) : Prop := A.guards = some []
theorem bare_deeper {A : Around} (h : Bare A) (env : PySem.Env) : Bare (A.deeper env) := h
structure FnD (P : Program) (w : World) (K : PySem.W.Frag) (mg : Str → Option Value) (base : Heap) (CX : CXT) (k : Nat) (f : Addr) (fd : FuncData) (ps : List Str) (sp : Sp) : Prop where
  len : ∀ vs H Q E, sp vs H Q E → vs.length = ps.length
  run : ∀ (A : Around) (outer : List PySem.Env) (s : Shared) (H : Hp) (args : Args) (us : List Value) (vs : List V) (Q : VK) (E : XK), Room k A → Bare A → Env0 P w K mg base A outer s H → BindsTo s fd args (ps.zip us) → Vals vs us → sp vs H Q E →
    codeAny (model P w) A (.call (.ref f) args) (CR CX outer P w H s Q E) s
theorem FnD.mono {P : Program} {w : World} {K : PySem.W.Frag} {mg : Str → Option Value} {base : Heap} {CX : CXT} {j k : Nat} {f : Addr} {fd : FuncData} {ps : List Str} {sp : Sp} (F : FnD P w K mg base CX j f fd ps sp) (h : j ≤ k) :
    FnD P w K mg base CX k f fd ps sp := ⟨F.len, fun A outer s H args us vs Q E hr => F.run A outer s H args us vs Q E (hr.mono h)⟩
theorem FnD.imp {P : Program} {w : World} {K : PySem.W.Frag} {mg : Str → Option Value} {base : Heap} {CX : CXT} {k : Nat} {f : Addr} {fd : FuncData} {ps : List Str} {sp sp' : Sp} (F : FnD P w K mg base CX k f fd ps sp)
    (h : ∀ vs H Q E, sp' vs H Q E → sp vs H Q E) : FnD P w K mg base CX k f fd ps sp' :=
  ⟨fun vs H Q E q => F.len vs H Q E (h _ _ _ _ q), fun A outer s H args us vs Q E hr hg he hb hv hs => F.run A outer s H args us vs Q E hr hg he hb hv (h _ _ _ _ hs)⟩
section
variable {X : Cx} {CX : CXT} {k : Nat} {f : Addr} {fd : FuncData} {ps : List Str} {sp : Sp} {E : XK} {x : Str} {p pos : Pos} {e : Expr} {es : List Expr} {t : TA}
theorem run_fnD {pins : List (Addr × Obj)} {σ : L2.St} {H : Hp} {s : Shared} {Q : VK} {us : List Value} {vs : List V} (F : FnD X.prog X.w X.K X.mg X.base CX k f fd ps sp) (hr : Room k X.A) (hG : Bare X.A) (hb : Binds X.K fd ps []) (hx : Passes CX X E)
    (I : Inv X pins σ H s) (r : Vals vs us) (h : sp vs H Q E) : wpAny (model X.prog X.w) X.A (call (.ref f) us) (EP X pins σ Q) X.xe s := by
  have hl : (us ++ []).length = ps.length := by rw [List.append_nil, ← r.length]; exact F.len _ _ _ _ h
  have hbd := hb s us I.kIn hl
  rw [List.append_nil] at hbd
  refine wpAny_call (codeAny_mono (F.run X.A X.stack s H ⟨us, []⟩ us vs Q E hr hG I.env0 hbd r h) fun r s' hq => ?_)
  cases r with
  | error e => exact hx pins σ H s e s' I hq
  | ok fl => cases fl with
    | ret u => exact I.after hq
    | _ => exact hq.elim
theorem pe_callD (F : FnD X.prog X.w X.K X.mg X.base CX k f fd ps sp) (hr : Room k X.A) (hG : Bare X.A) (hm : X.mg x = some (.ref f)) (hk : PySem.W.keepIn X.K (.ref f) = true) (hb : Binds X.K fd ps []) (hx : Passes CX X E)
    (ha : PA X (e :: es) t) (hg : Gl X x) (hdb : (x == ("__debug__" : Str)) = false) (he : starEach (e :: es) X.env = (false, eval e X.env) :: starEach es X.env) (hpl : (backTo pos (starEach es X.env)).any (·.1) = false) :
    PE X (.Call (.Name x p) (e :: es) [] pos) (tCall sp [] E t) := by
  refine ⟨fun pins s σ H Q I h => wpAny_Call_Name_kw (ld_glob I hg hm ?_ hdb)⟩
  refine PySem.W.callWith_K (h₀ := X.base) I.ok.mod.kin hk (thn (ha.run pos pins s σ H _ I h) fun us s1 ⟨vs, H1, I1, r, q⟩ => ⟨I1.kIn, ?_⟩) he hpl
  exact run_fnD F hr hG hb hx I1 r (by have q : sp (vs ++ []) H1 Q E := q; rw [List.append_nil] at q; exact q)
end
/-- a def by its body -/
theorem fn_ofD {CX : CXT} {P : Program} {w : World} {K : PySem.W.Frag} {mg : Str → Option Value} {base : Heap} {k : Nat} {f : Addr} {fd : FuncData} {x qual : Str} {st : Stmt} {N ps : List Str} {sp : Sp} (F : Fun K x qual st f fd) (S : FnScope N ps (defScope st))
    (len : ∀ vs H Q E, sp vs H Q E → vs.length = ps.length)
    (hbody : ∀ (cdv : Value) (A : Around) (outer : List PySem.Env) (s : Shared) (H : Hp) (vs : List V) (Q : VK) (E : XK), Room k (A.deeper (envOfC qual (defScope st) s.heap.objs.size f cdv)) → Bare A → sp vs H Q E →
      ∃ t, PSs (cxOf CX P w K mg base N qual (defScope st) f cdv A outer s H E) (defBody st) t ∧ t { nx := fun _ H' => Q .non H', rt := Q } (start N vs) H) :
    FnD P w K mg base CX (k + 1) f fd ps sp := by
  obtain ⟨oc, od, kV, doc, pm, an, cdv, ct, osl, rfl, lk, hcd⟩ := F.ex
  refine ⟨len, fun A outer s H args us vs Q E hr hG e0 hb r hsp => ?_⟩
  obtain ⟨t, ht, hq⟩ := hbody cdv A outer s H vs Q E (hr.deeper _) hG hsp
  have kp : ∀ b o, base.get? b = some o → s.heap.get? b = some o := fun b o e => (e0.bs b o e).1
  have KX : K.In s.heap := e0.mod.kin.keeps kp
  refine codeAny_call_function hr.depth (KX _ _ lk) rfl S.co S.gen rfl (PySem.W.codeRec_of KX hcd) (hb _ _ _ _ ?_)
  refine wpAny_newFunctionEnv_cells S.kind (fun y hy => ?_) fun env he s1 x => ?_
  · rcases S.par y.1 (List.of_mem_zip (show (y.1, y.2) ∈ ps.zip us from hy)).1 with q | q
    · exact .inl q
    · exact .inr ⟨q, PySem.W.cellsFrom_some _ _ _ (.inl q)⟩
  · subst he
    refine ⟨(e0.mod.nolimit.keeps kp).keeps x.toInCall.keep, codeAny_func ?_⟩
    have I := inv_start (CX := CX) (E := E) S hr.hd e0 (len _ _ _ _ hsp) r x
    refine wpAny_mono (ht.run [] s1 (start N vs) H _ I hq) (fun fl s' hs => ?_) fun e s' hs => hs
    cases fl with
    | ret u => obtain ⟨v, σ', H', J, rv, q⟩ := hs; exact ⟨v, H', J.os, J.bare, J.base, J.hok, rv, q⟩
    | next => obtain ⟨σ', H', J, q⟩ := hs; exact ⟨V.non, H', J.os, J.bare, J.base, J.hok, rfl, q⟩
    | brk => obtain ⟨_, _, _, q⟩ := hs; exact q.elim
    | cont => obtain ⟨_, _, _, q⟩ := hs; exact q.elim
/-- the head: the law's promise at the heap behind the top -/
theorem law_callD {P : Program} {w : World} {K : PySem.W.Frag} {mg mb : Str → Option Value} {CX : CXT} {k : Nat} {fa a : Addr} {fd : FuncData} {x : Str} {sp : Sp} {s₁ : Shared} {vs : List Value} {ns : List Int}
    (KX : K.In s₁.heap) (hns : s₁.heap.Ns mainGlobals mg) (hb : s₁.heap.Ns builtinsNs mb) (hbb : ∀ x : Str, x ≠ "__name__" → mb x = bootBuiltins x) (hlim : s₁.heap.NoLimit) (hg : s₁.gens = #[])
    (ha : s₁.heap.get? a = some { cls := .type "list", data := .seq vs.toArray }) (hi : IntsAre vs ns) (hl : ns.length ≤ sizeLine) (hr : Room k callerA)
    (F : ∀ base : Heap, K.In base → base.Ns mainGlobals mg → FnD P w K mg base CX k fa fd [x] sp) (hbind : ∀ (s : Shared) (u : Value), BindsTo s fd ⟨[u], []⟩ [(x, u)])
    (hsp : ∀ H : Hp, Only H → SqL K H a (ns.map V.int) → sp [.ref a] H (fun v _ => v = .bl true) fun _ _ _ => False)
    (hCX : ∀ H e s', CX [] H s₁ (fun _ _ _ => False) e s' → False) :
    codeAny (model P w) callerA (.call (.ref fa) ⟨[.ref a], []⟩) (fun r s' => r = .ok (.ret (.bool true)) ∧ OldK s₁.heap s'.heap ∧ s'.os = s₁.os ∧ AllBare s'.gens) s₁ := by
  have rv := vals_ints hi
  have sz : vs.toArray.size = ns.length := by rw [List.size_toArray, ← rv.length, List.length_map]
  -- H tracks the script alone, or nothing
  have core : ∀ H : Hp, Only H → SqL K H a (ns.map V.int) → HOk P w H s₁.heap → (∀ b u, H b = some u → b = a ∧ K.lookup a = none) →
      codeAny (model P w) callerA (.call (.ref fa) ⟨[.ref a], []⟩) (fun r s' => r = .ok (.ret (.bool true)) ∧ OldK s₁.heap s'.heap ∧ s'.os = s₁.os ∧ AllBare s'.gens) s₁ := by
    intro H hO hS hok hA
    have untracked : ∀ {b o}, s₁.heap.get? b = some o → (b = a → False) → H b = none := fun {b o} e n => by
      cases q : H b with
      | none => rfl
      | some u => exact (n (hA b u q).1).elim
    have nsK : ∀ {b : Addr} {m : Str → Option Value}, s₁.heap.Ns b m → (hidT s₁.heap H).Ns b m := fun {b m} ⟨o, es, ep, e, d, r⟩ => ⟨o, es, ep, hidT_get e (untracked e fun z => by
      subst z; rw [ha] at e; cases e; cases d), d, r⟩
    have hKb : K.In (hidT s₁.heap H) := fun b o e => hidT_get (KX b o e) (by
      cases q : H b with
      | none => rfl
      | some u => obtain ⟨z, hk⟩ := hA b u q; subst z; rw [hk] at e; cases e)
    obtain ⟨mc, l1, l2⟩ := hlim
    have e0 : Env0 P w K mg (hidT s₁.heap H) callerA [] s₁ H := ⟨rfl, ⟨hKb, nsK hns, ⟨mb, nsK hb, hbb⟩, ⟨mc, nsK l1, l2⟩⟩, fun b o e => of_hidT e, Nat.le_of_eq (hidT_size _ _), trivial, (fun b hb => by cases hb), hok, .of_eq hg⟩
    refine codeAny_mono ((F _ hKb (nsK hns)).run callerA [] s₁ H ⟨[.ref a], []⟩ [.ref a] [.ref a] _ _ hr rfl e0 (hbind s₁ (.ref a)) (.cons rfl .nil) (hsp H hO hS)) fun r s' h => ?_
    match r, h with
    | .error e, h => exact (hCX H e s' h).elim
    | .ok (.ret u), h =>
      obtain ⟨v, H', os, bare, un, hok', r', q⟩ := h
      obtain rfl : v = .bl true := q
      obtain rfl : u = Value.bool true := r'
      refine ⟨rfl, OldK.of_keep fun b o e => ?_, os, bare⟩
      rcases hO b with z | ⟨ob, xs, z⟩
      · exact un.keep b o e z (fun y => by cases y) (fun y => by cases y)
      · have e1 := (hok b _ z).1
        have e2 := (hok' b _ (un.frzs b ob _ z)).1
        rw [e] at e1; cases e1
        exact e2
    | .ok .next, h => exact h.elim
    | .ok .brk, h => exact h.elim
    | .ok .cont, h => exact h.elim
  cases hk : K.lookup a with
  | some o =>
    have e := KX a o hk
    rw [ha] at e
    cases e
    exact core (fun _ => none) (fun _ => .inl rfl) (.inr ⟨_, vs.toArray, _, hk, rfl, rfl, rfl, by rw [sz]; exact hl, by simpa using rv⟩) (fun b u z => by cases z) fun b u z => by cases z
  | none =>
    have sel : ∀ b u, (if b = a then some (HO.frz { cls := .type "list", data := .seq vs.toArray } (.lst (ns.map V.int))) else none) = some u → b = a ∧ u = HO.frz { cls := .type "list", data := .seq vs.toArray } (.lst (ns.map V.int)) := fun b u z => by
      by_cases hb : b = a
      · rw [if_pos hb] at z; cases z; exact ⟨hb, rfl⟩
      · rw [if_neg hb] at z; cases z
    refine core (fun b => if b = a then some (.frz { cls := .type "list", data := .seq vs.toArray } (.lst (ns.map V.int))) else none) (fun b => ?_) (.inl (.inr ⟨_, if_pos rfl⟩)) (fun b u z => ?_) fun b u z => ⟨(sel b u z).1, hk⟩
    · by_cases hb : b = a
      · exact .inr ⟨_, _, if_pos hb⟩
      · exact .inl (if_neg hb)
    · obtain ⟨rfl, rfl⟩ := sel b u z
      exact ⟨ha, by rw [List.length_map]; exact hl, vs, _, rv, ha⟩
theorem walk_ofD {l : PySem.W.OpenLaw} {n k : Nat} {q : Program} {loose : List Str} {XP : (Str → Option Value) → Heap → Prop} {YP : World → Heap → Prop} {d : DefRec} {K : Params → PySem.W.Frag} {CX : World → CXT} {sp : World → Sp} {x : Str}
    (hn : l.most = some n) (hn2 : n ≤ sizeLine) (hdf : d.params.defaults = []) (hr : Room k callerA)
    (hY : ∀ (w : World) (h : Heap), YP w h → (K w.params).In h)
    (F : ∀ (w : World) (mg : Str → Option Value) (fa : Addr) (h : Heap), (K w.params).In h → h.Ns mainGlobals mg → mg d.name = some (.ref fa) →
      ∃ fd : FuncData, (∀ (s : Shared) (u : Value), BindsTo s fd ⟨[u], []⟩ [(x, u)]) ∧
        ∀ base : Heap, (K w.params).In base → base.Ns mainGlobals mg → FnD l.prog w (K w.params) mg base (CX w) k fa fd [x] (sp w))
    (hsp : ∀ (w : World) (H : Hp) (a : Addr) (ns : List Int), ns.length ≤ n → (∀ z ∈ ns, Builtin.Int.intBits z ≤ 1048576) → Only H → SqL (K w.params) H a (ns.map V.int) → sp w [.ref a] H (fun v _ => v = .bl true) fun _ _ _ => False)
    (hCX : ∀ (w : World) (H : Hp) (s : Shared) (e : Value) (s' : Shared), CX w [] H s (fun _ _ _ => False) e s' → False) :
    PySem.W.WalkO q loose XP YP l.row.toRowW d [] (fun f vs => PySem.call f vs) := by
  refine Att.attach_callB hn hdf fun w s₀ s₁ mg mb fa o pm cd doc a vs ns G Y ho hd hcd hmg hobj hints hlen hbits hg => ?_
  obtain ⟨fd, hb, hF⟩ := F w mg fa _ (hY w _ Y) G.T.g hmg
  exact law_callD (hY w _ Y) G.T.g G.T.b G.T.builtins G.T.nolimit hg hobj hints (Nat.le_trans hlen hn2) hr hF hb (fun H hO hS => hsp w H a ns hlen hbits hO hS) fun H e s' => hCX w H s₁ e s'
end DL

set_option Elab.async false
set_option linter.all false
set_option maxRecDepth 100000
set_option maxHeartbeats 4000000
namespace DL
open PySem PySem.Spec PyProof.Rows L2
/-! ### contracts of defs over data -/
abbrev Spec := List D → (D → Bool → Prop) → Prop
def spD (K : PySem.W.Frag) (g : Spec) : Sp := fun vs H Q _ => ∃ hd ds R, EnvOk ⟨H, none, hd⟩ H ∧ DqAll K (hid hd H) vs ds ∧ g ds R ∧
  ∀ v H' d f, Qs ⟨H, none, hd⟩ H H' → Dq K (hid hd H') v d → (f = true → Fr K ⟨H, none, hd⟩ H v H' d) → R d f → Q v H'
def spS (K : PySem.W.Frag) (g : Spec) : Sp := fun vs H Q _ => ∃ a lc rest hd ds R, vs = .ref a :: rest ∧ EnvOk ⟨H, some (a, lc), hd⟩ H ∧ DqAll K (hid hd H) rest ds ∧ g ds R ∧
  ∀ v H' d f, Qs ⟨H, some (a, lc), hd⟩ H H' → Dq K (hid hd H') v d → (f = true → Fr K ⟨H, some (a, lc), hd⟩ H v H' d) → R d f → Q v H'
def startD (N : List Str) (ds : List D) : List SD := ds.map SD.d ++ List.replicate (N.length - ds.length) .un
def startS (N : List Str) (ds : List D) : List SD := .src :: ds.map SD.d ++ List.replicate (N.length - ds.length - 1) .un
theorem addrs_un (n : Nat) : addrs (List.replicate n .un) = [] := by
  induction n with
  | zero => rfl
  | succ n ih => rw [List.replicate_succ, addrs_cons_ne (fun _ _ z => by cases z)]; exact ih
theorem addrs_ds (ds : List D) (δ : List SD) : addrs (ds.map SD.d ++ δ) = addrs δ := by
  induction ds with
  | nil => rfl
  | cons d ds ih => rw [List.map_cons, List.cons_append, addrs_cons_ne (fun _ _ z => by cases z)]; exact ih
section
variable {K : PySem.W.Frag} {G : Gd} {H : Hp}
theorem sr_start {N : List Str} {vs : List V} {ds : List D} (e : EnvOk G H) (hl : vs.length ≤ N.length) (h : DqAll K (hid G.hd H) vs ds) : SR K G (startD N ds) (L2.start N vs) H := by
  have ea : addrs (startD N ds) = [] := by unfold startD; rw [addrs_ds, addrs_un]
  have el := h.length
  refine ⟨e, ?_, by rw [ea]; exact List.nodup_nil, fun i s hi => ?_⟩
  · unfold startD L2.start
    rw [List.length_append, List.length_append, List.length_map, List.length_map, List.length_replicate, List.length_replicate]
    omega
  · rw [ea]
    unfold startD at hi
    unfold L2.start
    by_cases hlt : i < ds.length
    · rw [List.getElem?_append_left (by simpa using hlt), List.getElem?_map, List.getElem?_eq_getElem hlt] at hi
      cases hi
      obtain ⟨v, h1, h2⟩ := h.get (List.getElem?_eq_getElem hlt)
      rw [List.getElem?_append_left (by rw [List.length_map]; omega), List.getElem?_map, h1]
      exact ⟨v, rfl, by rw [List.append_nil]; exact h2⟩
    · rw [List.getElem?_append_right (by simpa using hlt), List.getElem?_replicate] at hi
      split at hi
      · cases hi; trivial
      · cases hi
theorem sr_startS {N : List Str} {a lc : Addr} {vs : List V} {ds : List D} (e : EnvOk G H) (hs : G.src = some (a, lc)) (hl : vs.length + 1 ≤ N.length) (h : DqAll K (hid G.hd H) vs ds) : SR K G (startS N ds) (L2.start N (.ref a :: vs)) H := by
  have ea : addrs (startS N ds) = [] := by
    unfold startS
    rw [List.cons_append, addrs_cons_ne (fun _ _ z => by cases z), addrs_ds, addrs_un]
  have el := h.length
  refine ⟨e, ?_, by rw [ea]; exact List.nodup_nil, fun i s hi => ?_⟩
  · unfold startS L2.start
    rw [List.length_append, List.length_append, List.length_cons, List.length_map, List.length_map, List.length_replicate, List.length_replicate, List.length_cons]
    omega
  · rw [ea]
    unfold startS at hi
    unfold L2.start
    cases i with
    | zero =>
      cases hi
      exact ⟨a, lc, hs, rfl⟩
    | succ i =>
      have hi : (ds.map SD.d ++ List.replicate (N.length - ds.length - 1) .un)[i]? = some s := hi
      show Slot K G [] H s ((vs.map some ++ List.replicate (N.length - (vs.length + 1)) none)[i]?)
      by_cases hlt : i < ds.length
      · rw [List.getElem?_append_left (by simpa using hlt), List.getElem?_map, List.getElem?_eq_getElem hlt] at hi
        cases hi
        obtain ⟨v, h1, h2⟩ := h.get (List.getElem?_eq_getElem hlt)
        rw [List.getElem?_append_left (by rw [List.length_map]; omega), List.getElem?_map, h1]
        exact ⟨v, rfl, by rw [List.append_nil]; exact h2⟩
      · rw [List.getElem?_append_right (by simpa using hlt), List.getElem?_replicate] at hi
        split at hi
        · cases hi; trivial
        · cases hi
end
section
variable {CX : CXT} {P : Program} {w : World} {K : PySem.W.Frag} {mg : Str → Option Value} {base : Heap} {k : Nat} {f : Addr} {fd : FuncData} {x qual : Str} {st : Stmt} {N ps : List Str} {g : Spec} {t : TSd}
theorem take_le {ps N : List Str} (h : N.take ps.length = ps) : ps.length ≤ N.length := by
  have := congrArg List.length h
  rw [List.length_take] at this
  omega
/-- a def that is given data alone -/
theorem fn_d (F : Fun K x qual st f fd) (S : FnScope N ps (defScope st)) (len : ∀ ds R, g ds R → ds.length = ps.length)
    (hb : ∀ (cdv : Value) (A : Around) (outer : List PySem.Env) (s : Shared) (H : Hp) (E : XK) (G : Gd), Room k (A.deeper (envOfC qual (defScope st) s.heap.objs.size f cdv)) → Bare A → DSs (cxOf CX P w K mg base N qual (defScope st) f cdv A outer s H E).nox G (defBody st) t)
    (sem : ∀ ds R, g ds R → t { nx := fun _ => R .none false, rt := R } (startD N ds)) : FnD P w K mg base CX (k + 1) f fd ps (spD K g) := by
  refine fn_ofD F S (fun vs H Q E h => ?_) fun cdv A outer s H vs Q E hr hG h => ?_
  · obtain ⟨hd, ds, R, e, q, hg, _⟩ := h
    rw [q.length]; exact len ds R hg
  · obtain ⟨hd, ds, R, e, q, hg, kk⟩ := h
    refine ⟨_, (hb cdv A outer s H E ⟨H, none, hd⟩ hr hG).pss.nox, startD N ds, _, sr_start e (by rw [q.length, len ds R hg]; exact take_le S.pre) q, sem ds R hg, fun δ σ H' S' r => ?_, fun v H' d f e' q' fr r => ?_, fun δ σ H' S' r => r.elim, fun δ σ H' S' r => r.elim⟩
    · exact kk .non H' .none false ⟨S'.env.frm, S'.env.src⟩ .non (fun z => by cases z) r
    · exact kk v H' d f ⟨e'.frm, e'.src⟩ q' fr r
/-- a def that is given the source first -/
theorem fn_s (F : Fun K x qual st f fd) (S : FnScope N ps (defScope st)) (len : ∀ ds R, g ds R → ds.length + 1 = ps.length)
    (hb : ∀ (cdv : Value) (A : Around) (outer : List PySem.Env) (s : Shared) (H : Hp) (E : XK) (G : Gd), Room k (A.deeper (envOfC qual (defScope st) s.heap.objs.size f cdv)) → Bare A → DSs (cxOf CX P w K mg base N qual (defScope st) f cdv A outer s H E).nox G (defBody st) t)
    (sem : ∀ ds R, g ds R → t { nx := fun _ => R .none false, rt := R } (startS N ds)) : FnD P w K mg base CX (k + 1) f fd ps (spS K g) := by
  refine fn_ofD F S (fun vs H Q E h => ?_) fun cdv A outer s H vs Q E hr hG h => ?_
  · obtain ⟨a, lc, rest, hd, ds, R, rfl, e, q, hg, _⟩ := h
    rw [List.length_cons, q.length]; exact len ds R hg
  · obtain ⟨a, lc, rest, hd, ds, R, rfl, e, q, hg, kk⟩ := h
    refine ⟨_, (hb cdv A outer s H E ⟨H, some (a, lc), hd⟩ hr hG).pss.nox, startS N ds, _, sr_startS (a := a) (lc := lc) e rfl (by rw [q.length, len ds R hg]; exact take_le S.pre) q, sem ds R hg, fun δ σ H' S' r => ?_, fun v H' d f e' q' fr r => ?_, fun δ σ H' S' r => r.elim, fun δ σ H' S' r => r.elim⟩
    · exact kk .non H' .none false ⟨S'.env.frm, S'.env.src⟩ .non (fun z => by cases z) r
    · exact kk v H' d f ⟨e'.frm, e'.src⟩ q' fr r
end
/-! ### calls of such defs -/
section
variable {K : PySem.W.Frag} {G : Gd} {δ : List SD} {σ : L2.St} {H H1 H2 : Hp}
theorem hP_sub {P : List Addr} {a : Bool} : ∀ b ∈ G.hd, b ∈ hP G P a := fun b h => hP_mem h
theorem hP_in {P : List Addr} {a : Bool} : ∀ b ∈ hP G P a, b ∈ G.hd ++ P := fun b h => by
  cases a with
  | true => exact h
  | false => exact List.mem_append_left _ h
theorem SR.callee (S : SR K G δ σ H) (a : Bool) (src : Option (Addr × Addr)) (hs : src = none ∨ src = G.src) : EnvOk ⟨H, src, hP G (addrs δ) a⟩ H := by
  refine ⟨fun b lc e => ?_, fun b hb => ?_, fun b hb => ?_, fun b hb => S.noP b (hP_in b hb), fun b o e n => e⟩
  · rcases hs with hs | hs
    · rw [hs] at e; cases e
    · exact S.env.src b lc (by rw [← hs]; exact e)
  · rcases hs with hs | hs
    · subst hs; cases hb
    · refine hP_sub b (S.env.slh b ?_)
      unfold Gd.sl at hb ⊢
      rw [← hs]; exact hb
  · rcases List.mem_append.mp (hP_in b hb) with z | z
    · exact S.env.hdt b z
    · obtain ⟨_, _, vs, e⟩ := S.ownAt z
      exact ⟨_, e⟩
theorem back_fr (S : SR K G δ σ H) (q1 : Qs G H H1) {a : Bool} {src : Option (Addr × Addr)} {v : V} {d : D} (h : Fr K ⟨H1, src, hP G (addrs δ) a⟩ H1 v H2 d) : Fr K G H v H2 d := by
  obtain ⟨p, vs, ds, e1, ⟨e2, e2'⟩, e3, e4, e5⟩ := h
  exact ⟨p, vs, ds, e1, ⟨q1.none S.env e2, fun z => e2' (hP_sub p z)⟩, e3, e4, e5.mono (hid_mono fun b o hn e => ⟨e, fun z => hn (by
    rcases List.mem_cons.mp z with z | z
    · rw [z]; exact List.mem_cons_self
    · exact List.mem_cons_of_mem _ (hP_sub b z))⟩)⟩
end
section
variable {X : Cx} {G : Gd} {CX : CXT} {k : Nat} {f : Addr} {fd : FuncData} {ps : List Str} {g : Spec} {E : XK} {x : Str} {p pos : Pos} {e : Expr} {es : List Expr} {ta : TAd}
def tdCall (ta : TAd) (g : Spec) : TEd := fun δ R => ta δ fun ds a => g ds fun d f => R d a f
def tdCallS (i : Nat) (ta : TAd) (g : Spec) : TEd := fun δ R => match δ[i]? with
  | some .src => ta δ fun ds a => g ds fun d f => R d a f
  | _ => False
theorem de_call (F : FnD X.prog X.w X.K X.mg X.base CX k f fd ps (spD X.K g)) (hr : Room k X.A) (hG : Bare X.A) (hm : X.mg x = some (.ref f)) (hk : PySem.W.keepIn X.K (.ref f) = true) (hb : Binds X.K fd ps []) (hx : Passes CX X E)
    (ha : DA X G (e :: es) ta) (hg : Gl X x := by rfl) (hdb : (x == ("__debug__" : Str)) = false := by decide) (he : starEach (e :: es) X.env = (false, eval e X.env) :: starEach es X.env := by rfl) (hpl : (backTo pos (starEach es X.env)).any (·.1) = false := by rfl) :
    DE X G (.Call (.Name x p) (e :: es) [] pos) (tdCall ta g) := by
  refine ⟨PE.imp (pe_callD F hr hG hm hk hb hx ha.pa hg hdb he hpl) fun σ H Q h => ?_⟩
  obtain ⟨δ, R, S, h, kk⟩ := h
  refine ⟨δ, _, S, h, fun vs H1 ds a q1 d1 r1 => ?_⟩
  have S1 := S.quiet q1
  show spD X.K g (vs ++ []) H1 Q E
  rw [List.append_nil]
  refine ⟨hP G (addrs δ) a, ds, _, S1.callee a none (.inl rfl), d1.z, r1, fun v H2 d ff q2 z2 fr r => ?_⟩
  have q2' : Qs G H1 H2 := S1.env.same fun b o h => q2.st b o h fun z => by cases z
  exact kk v H2 d a ff (q1.trans q2') ⟨z2, fun hf => back_fr S q1 (fr hf)⟩ r
theorem de_callS (i : Nat) {xs : Str} {ps' : Pos} (F : FnD X.prog X.w X.K X.mg X.base CX k f fd ps (spS X.K g)) (hr : Room k X.A) (hG : Bare X.A) (hm : X.mg x = some (.ref f)) (hk : PySem.W.keepIn X.K (.ref f) = true) (hb : Binds X.K fd ps []) (hx : Passes CX X E)
    (ha : DA X G es ta) (hN : X.N[i]? = some xs := by rfl) (hv : Vis X.env.scope xs := by first | exact Or.inl rfl | exact Or.inr (Or.inl rfl) | exact Or.inr (Or.inr rfl)) (hd : (xs == ("__debug__" : Str)) = false := by decide) (hcd : (xs == ("__classdict__" : Str)) = false := by decide)
    (hg : Gl X x := by rfl) (hdb : (x == ("__debug__" : Str)) = false := by decide) (he : starEach (.Name xs ps' :: es) X.env = (false, eval (.Name xs ps') X.env) :: starEach es X.env := by rfl) (hpl : (backTo pos (starEach es X.env)).any (·.1) = false := by rfl) :
    DE X G (.Call (.Name x p) (.Name xs ps' :: es) [] pos) (tdCallS i ta g) := by
  refine ⟨PE.imp (pe_callD F hr hG hm hk hb hx (pa_cons (pe_var hN hv hd hcd) ha.pa he) hg hdb he hpl) fun σ H Q h => ?_⟩
  obtain ⟨δ, R, S, h, kk⟩ := h
  unfold tdCallS at h
  split at h
  · rename_i hi
    obtain ⟨a0, lc, hs, hσ⟩ := S.at_ i _ hi
    refine ⟨_, hσ, δ, _, S, h, fun vs H1 ds a q1 d1 r1 => ?_⟩
    have S1 := S.quiet q1
    show spS X.K g ((.ref a0 :: vs) ++ []) H1 Q E
    rw [List.append_nil]
    refine ⟨a0, lc, vs, hP G (addrs δ) a, ds, _, rfl, S1.callee a (some (a0, lc)) (.inr hs.symm), d1.z, r1, fun v H2 d ff q2 z2 fr r => ?_⟩
    have q2' : Qs G H1 H2 := ⟨fun b o h n => q2.st b o h fun z => n (by unfold Gd.sl at z ⊢; rw [hs]; exact z), fun a' lc' e => q2.src a' lc' (by rw [hs] at e; exact e)⟩
    exact kk v H2 d a ff (q1.trans q2') ⟨z2, fun hf => back_fr S q1 (fr hf)⟩ r
  · exact h.elim
end
/-! ### operators by data -/
abbrev TBd := D → Bool → D → Bool → (D → Bool → Bool → Prop) → Prop
def rD (K : PySem.W.Frag) (G : Gd) (tb : TBd) : R2 := fun x y H Q => ∃ δ σ dx ax dy ay R, SR K G δ σ H ∧ Dq K (hid (hP G (addrs δ) ax) H) x dx ∧ Dq K (hid (hP G (addrs δ) ay) H) y dy ∧ tb dx ax dy ay R ∧
  ∀ v H' d a f, Qs G H H' → VR K G (addrs δ) H v H' d a f → R d a f → Q v H'
def tdBin (tb : TBd) (ta tb' : TEd) : TEd := fun δ R => ta δ fun x ax _ => tb' δ fun y ay _ => tb x ax y ay R
section
variable {X : Cx} {G : Gd} {pos : Pos} {a b c : Expr} {ta tb tc : TEd} {u u2 : TBd}
theorem bin_read {K : PySem.W.Frag} {σ : L2.St} {H : Hp} {Q : VK} (h : lE K G (tdBin u ta tb) σ H Q) : lE K G ta σ H fun x H1 => lE K G tb σ H1 fun y H2 => rD K G u x y H2 Q := by
  obtain ⟨δ, R, S, h, kk⟩ := h
  refine ⟨δ, _, S, h, fun v1 H1 d1 a1 f1 q1 r1 h1 => ⟨δ, _, S.quiet q1, h1, fun v2 H2 d2 a2 f2 q2 r2 h2 => ?_⟩⟩
  have S1 := S.quiet q1
  exact ⟨δ, σ, d1, a1, d2, a2, R, S1.quiet q2, r1.z.mono (hP_step S1.env q2), r2.z, h2, fun v H' d a f q r hr => kk v H' d a f ((q1.trans q2).trans q) (r.from S.env (q1.trans q2)) hr⟩
theorem de_op {op : Operator} (ho : OpR X (binaryOp op) (rD X.K G u)) (ha : DE X G a ta) (hb : DE X G b tb) : DE X G (.BinOp a op b pos) (tdBin u ta tb) :=
  ⟨PE.imp (pe_op ho ha.pe hb.pe) fun σ H Q h => bin_read h⟩
theorem de_cmp {op : CmpOp} (ho : OpR X (compareOp op) (rD X.K G u)) (hm : behindInMarks op b = false) (ha : DE X G a ta) (hb : DE X G b tb) : DE X G (.Compare a [op] [b] pos) (tdBin u ta tb) :=
  ⟨PE.imp (pe_cmpR ho ha.pe hb.pe hm) fun σ H Q h => bin_read h⟩
theorem dt_cmp {op : CmpOp} (ho : OpR X (compareOp op) (rD X.K G u)) (hm : behindInMarks op b = false) (ha : DE X G a ta) (hb : DE X G b tb) : DT X G (.Compare a [op] [b] pos) (tdB (tdBin u ta tb)) := by
  refine ⟨PT.imp (pt_cmpR ho ha.pe hb.pe hm) fun σ H Q h => ?_⟩
  have := bin_read (Q := fun x H' => ∃ k, x = .bl k ∧ Q k H') (u := u) (ta := ta) (tb := tb) (K := X.K) (G := G) (σ := σ) (H := H)
  refine this ?_
  obtain ⟨δ, R, S, h, kk⟩ := h
  refine ⟨δ, _, S, h, fun v H' d a f q r hr => ?_⟩
  cases d with
  | bool k =>
    cases r.z
    exact ⟨k, rfl, kk k H' q hr⟩
  | _ => exact hr.elim
/-- a < b < c -/
def tdChain (u u2 : TBd) (ta tb tc : TEd) : TEd := fun δ R => ta δ fun x ax _ => tb δ fun y ay _ => u x ax y ay fun d _ _ => match d with
  | .bool k => if k = true then tc δ fun z az _ => u2 y ay z az R else R (.bool false) true false
  | _ => False
theorem chain_read {K : PySem.W.Frag} {σ : L2.St} {H : Hp} {Q : VK} (h : lE K G (tdChain u u2 ta tb tc) σ H Q) : tChain (rD K G u) (rD K G u2) (lE K G ta) (lE K G tb) (lE K G tc) σ H Q := by
  obtain ⟨δ, R, S, h, kk⟩ := h
  refine ⟨δ, _, S, h, fun v1 H1 d1 a1 f1 q1 r1 h1 => ⟨δ, _, S.quiet q1, h1, fun v2 H2 d2 a2 f2 q2 r2 h2 => ?_⟩⟩
  have S1 := S.quiet q1
  have S2 := S1.quiet q2
  refine ⟨δ, σ, d1, a1, d2, a2, _, S2, r1.z.mono (hP_step S1.env q2), r2.z, h2, fun v H3 d a f q3 r h3 => ?_⟩
  cases d with
  | bool k =>
    cases r.z
    refine ⟨k, rfl, ?_⟩
    have h3 : if k = true then tc δ fun z az _ => u2 d2 a2 z az R else R (.bool false) true false := h3
    by_cases hk : k = true
    · rw [if_pos hk] at h3 ⊢
      refine ⟨δ, _, S2.quiet q3, h3, fun v4 H4 d4 a4 f4 q4 r4 h4 => ?_⟩
      have q34 := q3.trans q4
      exact ⟨δ, σ, d2, a2, d4, a4, R, S2.quiet q34, r2.z.mono (hP_step S2.env q34), r4.z, h4, fun v H' d a f q r hr => kk v H' d a f (((q1.trans q2).trans q34).trans q) (r.from S.env ((q1.trans q2).trans q34)) hr⟩
    · rw [if_neg hk] at h3 ⊢
      exact kk _ H3 _ _ _ ((q1.trans q2).trans q3) (.sc S ((q1.trans q2).trans q3) fun _ => .bl _) h3
  | _ => exact h3.elim
theorem de_chain {op op' : CmpOp} (ho : OpR X (compareOp op) (rD X.K G u)) (ho' : OpR X (compareOp op') (rD X.K G u2)) (ha : DE X G a ta) (hb : DE X G b tb) (hc : DE X G c tc)
    (hm : lastMarks [op, op'] [b, c] = false := by with_unfolding_all rfl) : DE X G (.Compare a [op, op'] [b, c] pos) (tdChain u u2 ta tb tc) := ⟨PE.imp (pe_chain ho ho' ha.pe hb.pe hc.pe hm) fun σ H Q h => chain_read h⟩
theorem dt_chain {op op' : CmpOp} (ho : OpR X (compareOp op) (rD X.K G u)) (ho' : OpR X (compareOp op') (rD X.K G u2)) (ha : DE X G a ta) (hb : DE X G b tb) (hc : DE X G c tc)
    (hm : lastMarks [op, op'] [b, c] = false := by with_unfolding_all rfl) : DT X G (.Compare a [op, op'] [b, c] pos) (tdB (tdChain u u2 ta tb tc)) := by
  refine ⟨PT.imp (pt_chain ho ho' ha.pe hb.pe hc.pe hm) fun σ H Q h => ?_⟩
  obtain ⟨δ, R, S, h, kk⟩ := h
  refine chain_read (Q := fun x H' => ∃ k, x = .bl k ∧ Q k H') ⟨δ, _, S, h, fun v H' d a f q r hr => ?_⟩
  cases d with
  | bool k =>
    cases r.z
    exact ⟨k, rfl, kk k H' q hr⟩
  | _ => exact hr.elim
end
end DL

set_option Elab.async false
set_option linter.all false
set_option maxRecDepth 100000
set_option maxHeartbeats 4000000
namespace DL
open PySem PySem.Spec PyProof.Rows L2
section
variable {X : Cx} {G : Gd}
/-! ### arithmetic, putting together -/
def addD : TBd := fun x ax y ay R => match x, y with
  | .int i, .int j => R (.int (i + j)) true false
  | .str i, .str j => i.length + j.length ≤ sizeLine ∧ R (.str (i ++ j)) true false
  | .tuple xs, .tuple ys => xs.length + ys.length ≤ sizeLine ∧ R (.tuple (xs ++ ys)) (ax && ay) false
  | .list xs, .list ys => xs.length + ys.length ≤ sizeLine ∧ R (.list (xs ++ ys)) (ax && ay) true
  | _, _ => False
theorem two_all {K : PySem.W.Frag} {P : List Addr} {H : Hp} {a b : Bool} {vs ws : List V} {xs ys : List D} (h1 : DqAll K (hid (hP G P a) H) vs xs) (h2 : DqAll K (hid (hP G P b) H) ws ys) : DqAll K (hid (hP G P (a && b)) H) (vs ++ ws) (xs ++ ys) := (h1.mono (hP_and1 a b)).append (h2.mono (hP_and2 a b))
theorem od_add : OpR X (binaryOp .Add) (rD X.K G addD) := by
  intro pins s σ H x y v u Q I rx ry h
  obtain ⟨δ, σ', dx, ax, dy, ay, R, S, zx, zy, h, kk⟩ := h
  have q0 := S.env.refl
  cases dx with
  | int i => cases dy with
    | int j =>
      cases zx; cases zy
      exact op_add pins s σ H _ _ v u Q I rx ry ⟨i, j, rfl, rfl, kk _ H _ _ _ q0 (.sc S q0 fun _ => .int _) h⟩
    | _ => exact h.elim
  | str i => cases dy with
    | str j =>
      have s1 : sok i := zx.clean
      have s2 : sok j := zy.clean
      cases zx; cases zy
      exact op_add_str pins s σ H _ _ v u Q I rx ry ⟨i, j, rfl, rfl, h.1, kk _ H _ _ _ q0 (.sc S q0 fun _ => .str _ (sok_append s1 s2)) h.2⟩
    | _ => exact h.elim
  | tuple xs => cases dy with
    | tuple ys =>
      cases zx with
      | @tup p vs _ h1 d1 => cases zy with
        | @tup p2 ws _ h2 d2 =>
        refine op_catA pins s σ H _ _ v u Q I rx ry ⟨p, p2, vs, ws, rfl, rfl, Same.sqT hid_same h1, Same.sqT hid_same h2, by rw [d1.length, d2.length]; exact h.1, fun e => ?_, fun e0 e => ?_, fun e0 e1 q hq => ?_⟩
        · subst e
          cases d1
          exact kk _ H _ _ false q0 ⟨.tup (Same.sqT (hP_and2 ax ay) h2) (d2.mono (hP_and2 ax ay)), fun z => by cases z⟩ h.2
        · subst e
          cases d2
          have h' := h.2
          rw [List.append_nil] at h'
          exact kk _ H _ _ false q0 ⟨.tup (Same.sqT (hP_and1 ax ay) h1) (d1.mono (hP_and1 ax ay)), fun z => by cases z⟩ h'
        · obtain ⟨q1, r1⟩ := VR.newTup S q0 hq ⟨two_all d1 d2⟩
          exact kk _ _ _ _ _ q1 r1 h.2
    | _ => exact h.elim
  | list xs => cases dy with
    | list ys =>
      cases zx with
      | @lst p vs _ h1 d1 => cases zy with
        | @lst p2 ws _ h2 d2 =>
        refine op_cat pins s σ H _ _ v u Q I rx ry ⟨p, p2, vs, ws, rfl, rfl, (hid_some.mp h1).2, (hid_some.mp h2).2, by rw [d1.length, d2.length]; exact h.1, fun q hq => ?_⟩
        obtain ⟨q1, r1⟩ := VR.newLst S q0 hq ⟨two_all d1 d2⟩
        exact kk _ _ _ _ _ q1 r1 h.2
    | _ => exact h.elim
  | none => cases dy <;> exact h.elim
  | bool b => cases dy <;> exact h.elim
  | dict b => cases dy <;> exact h.elim
def subD : TBd := fun x _ y _ R => match x, y with
  | .int i, .int j => R (.int (i - j)) true false
  | _, _ => False
/-- two ints, by a rule for two ints -/
theorem od_ints {f : Value → Value → Sem Value} {C : Int → Int → Prop} {r : Int → Int → V} {d : Int → Int → D} (ho : OpR X f (rI C r)) (hd : ∀ i j H, Dq X.K H (r i j) (d i j)) :
    OpR X f (rD X.K G fun x _ y _ R => match x, y with | .int i, .int j => C i j ∧ R (d i j) true false | _, _ => False) := by
  intro pins s σ H x y v u Q I rx ry h
  obtain ⟨δ, σ', dx, ax, dy, ay, R, S, zx, zy, h, kk⟩ := h
  have q0 := S.env.refl
  cases dx with
  | int i => cases dy with
    | int j =>
      cases zx; cases zy
      exact ho pins s σ H _ _ v u Q I rx ry ⟨i, j, rfl, rfl, h.1, kk _ H _ _ _ q0 (.sc S q0 (hd i j)) h.2⟩
    | _ => exact h.elim
  | _ => cases dy <;> exact h.elim
theorem od_ints0 {f : Value → Value → Sem Value} {r : Int → Int → V} {d : Int → Int → D} (ho : OpR X f (rI0 r)) (hd : ∀ i j H, Dq X.K H (r i j) (d i j)) :
    OpR X f (rD X.K G fun x _ y _ R => match x, y with | .int i, .int j => R (d i j) true false | _, _ => False) := by
  intro pins s σ H x y v u Q I rx ry h
  obtain ⟨δ, σ', dx, ax, dy, ay, R, S, zx, zy, h, kk⟩ := h
  have q0 := S.env.refl
  cases dx with
  | int i => cases dy with
    | int j =>
      cases zx; cases zy
      exact ho pins s σ H _ _ v u Q I rx ry ⟨i, j, rfl, rfl, kk _ H _ _ _ q0 (.sc S q0 (hd i j)) h⟩
    | _ => exact h.elim
  | _ => cases dy <;> exact h.elim
theorem od_sub : OpR X (binaryOp .Sub) (rD X.K G subD) := od_ints0 op_sub fun _ _ _ => .int _
def fdivD : TBd := fun x _ y _ R => match x, y with
  | .int i, .int j => CDivN i j ∧ R (.int (i.fdiv j)) true false
  | _, _ => False
theorem od_fdiv : OpR X (binaryOp .FloorDiv) (rD X.K G fdivD) := od_ints op_fdivN fun _ _ _ => .int _
def modD : TBd := fun x _ y _ R => match x, y with
  | .int i, .int j => j ≠ 0 ∧ R (.int (i.fmod j)) true false
  | _, _ => False
theorem od_mod : OpR X (binaryOp .Mod) (rD X.K G modD) := od_ints op_modN fun _ _ _ => .int _
def ltD : TBd := fun x _ y _ R => match x, y with
  | .int i, .int j => R (.bool (decide (i < j))) true false
  | _, _ => False
def leD : TBd := fun x _ y _ R => match x, y with
  | .int i, .int j => R (.bool (decide (i ≤ j))) true false
  | _, _ => False
def gtD : TBd := fun x _ y _ R => match x, y with
  | .int i, .int j => R (.bool (decide (j < i))) true false
  | _, _ => False
def geD : TBd := fun x _ y _ R => match x, y with
  | .int i, .int j => R (.bool (decide (j ≤ i))) true false
  | _, _ => False
theorem od_lt : OpR X (compareOp .Lt) (rD X.K G ltD) := od_ints0 op_lt fun _ _ _ => .bl _
theorem od_le : OpR X (compareOp .LtE) (rD X.K G leD) := od_ints0 op_le fun _ _ _ => .bl _
theorem od_gt : OpR X (compareOp .Gt) (rD X.K G gtD) := od_ints0 op_gt fun _ _ _ => .bl _
theorem od_ge : OpR X (compareOp .GtE) (rD X.K G geD) := od_ints0 op_ge fun _ _ _ => .bl _
/-- ints; a list so many times -/
def mulD : TBd := fun x ax y _ R => match x, y with
  | .int i, .int j => CMul i j ∧ R (.int (i * j)) true false
  | .list xs, .int k => -(2 ^ 63) ≤ k ∧ k < 2 ^ 63 ∧ xs.length * k.toNat ≤ sizeLine ∧ R (.list (List.replicate k.toNat xs).flatten) ax true
  | .tuple xs, .int k => (xs ≠ [] ∧ 2 ≤ k ∧ k ≤ 1000 ∧ xs.length ≤ 1000) ∧ R (.tuple (List.replicate k.toNat xs).flatten) ax false
  | _, _ => False
theorem rep_all {K : PySem.W.Frag} {H : Hp} {vs : List V} {xs : List D} (h : DqAll K H vs xs) : ∀ n : Nat, DqAll K H (List.replicate n vs).flatten (List.replicate n xs).flatten
  | 0 => .nil
  | n + 1 => by
    rw [List.replicate_succ, List.replicate_succ, List.flatten_cons, List.flatten_cons]
    exact h.append (rep_all h n)
theorem od_mul : OpR X (binaryOp .Mult) (rD X.K G mulD) := by
  intro pins s σ H x y v u Q I rx ry h
  obtain ⟨δ, σ', dx, ax, dy, ay, R, S, zx, zy, h, kk⟩ := h
  have q0 := S.env.refl
  cases dx with
  | int i => cases dy with
    | int j =>
      cases zx; cases zy
      exact op_mul pins s σ H _ _ v u Q I rx ry ⟨i, j, rfl, rfl, h.1, kk _ H _ _ _ q0 (.sc S q0 fun _ => .int _) h.2⟩
    | _ => exact h.elim
  | list xs => cases dy with
    | int k =>
      cases zy
      cases zx with
      | @lst p vs _ h1 d1 =>
      refine op_rep pins s σ H _ _ v u Q I rx ry ⟨p, k, vs, rfl, rfl, (hid_some.mp h1).2, h.1, h.2.1, by rw [d1.length]; exact h.2.2.1, fun q hq => ?_⟩
      obtain ⟨q1, r1⟩ := VR.newLst S q0 hq ⟨rep_all d1 k.toNat⟩
      exact kk _ _ _ _ _ q1 r1 h.2.2.2
    | _ => exact h.elim
  | tuple xs => cases dy with
    | int k =>
      cases zy
      cases zx with
      | @tup p vs _ h1 d1 =>
      refine op_repT pins s σ H _ _ v u Q I rx ry ⟨p, k, vs, rfl, rfl, Same.sqT hid_same h1, fun e => h.1.1 (by subst e; cases d1; rfl), h.1.2.1, h.1.2.2.1, by rw [d1.length]; exact h.1.2.2.2, fun q hq => ?_⟩
      obtain ⟨q1, r1⟩ := VR.newTup S q0 hq ⟨rep_all d1 k.toNat⟩
      exact kk _ _ _ _ _ q1 r1 h.2
    | _ => exact h.elim
  | _ => cases dy <;> exact h.elim
/-! ### equality -/
theorem op_eqM : OpR X (compareOp .Eq) (fun x y H Q => ∃ d e, Dp X.K H x d ∧ Dp X.K H y e ∧ d.canLay0 = true ∧ e.canLay0 = true ∧ X.A.units + min d.depth e.depth < cLine ∧ Q (.bl (PyData.eqv d e)) H) := by
  intro pins s σ H x y v u Q I rx ry h
  obtain ⟨d, e, hd, he, cd, ce, hm, q⟩ := h
  obtain ⟨as, r1⟩ := Dp.reads I d x v hd rx
  obtain ⟨bs, r2⟩ := Dp.reads I e y u he ry
  exact SeqAt.compareEq_reads r1 r2 cd ce hm ⟨.bl _, H, I, rfl, q⟩
theorem op_neM : OpR X (compareOp .NotEq) (fun x y H Q => ∃ d e, Dp X.K H x d ∧ Dp X.K H y e ∧ d.canLay0 = true ∧ e.canLay0 = true ∧ X.A.units + min d.depth e.depth < cLine ∧ Q (.bl (!PyData.eqv d e)) H) := by
  intro pins s σ H x y v u Q I rx ry h
  obtain ⟨d, e, hd, he, cd, ce, hm, q⟩ := h
  obtain ⟨as, r1⟩ := Dp.reads I d x v hd rx
  obtain ⟨bs, r2⟩ := Dp.reads I e y u he ry
  exact SeqAt.compareNe_reads r1 r2 cd ce hm ⟨.bl _, H, I, rfl, q⟩
def eqD (neg : Bool) : TBd := fun x _ y _ R => match x, y with
  | .int i, .int j => R (.bool (neg ^^ decide (i = j))) true false
  | .str i, .str j => R (.bool (neg ^^ decide (i = j))) true false
  | x, y => min x.depth y.depth ≤ 64 ∧ R (.bool (neg ^^ PyData.eqv x y)) true false
theorem od_eq (hu : X.A.units + 64 < cLine) : OpR X (compareOp .Eq) (rD X.K G (eqD false)) := by
  intro pins s σ H x y v u Q I rx ry h
  obtain ⟨δ, σ', dx, ax, dy, ay, R, S, zx, zy, h, kk⟩ := h
  have q0 := S.env.refl
  have dp1 := (zx.mono hid_same).dp
  have dp2 := (zy.mono hid_same).dp
  have fin : min dx.depth dy.depth ≤ 64 ∧ R (.bool (false ^^ PyData.eqv dx dy)) true false → wpAny (model X.prog X.w) X.A (compareOp .Eq v u) (EP X pins σ Q) X.xe s := fun h =>
    op_eqM pins s σ H _ _ v u Q I rx ry ⟨dx, dy, dp1, dp2, zx.clean, zy.clean, by omega, kk _ H _ _ _ q0 (.sc S q0 fun _ => .bl _) (by have := h.2; rwa [Bool.false_xor] at this)⟩
  unfold eqD at h
  split at h
  · cases zx; cases zy
    rw [Bool.false_xor] at h
    exact op_eq pins s σ H _ _ v u Q I rx ry ⟨rfl, by rw [dec_int]; exact kk _ H _ _ _ q0 (.sc S q0 fun _ => .bl _) (by rw [Bool.beq_eq_decide_eq]; exact h)⟩
  · cases zx; cases zy
    rw [Bool.false_xor] at h
    exact op_eq pins s σ H _ _ v u Q I rx ry ⟨rfl, by rw [dec_str]; exact kk _ H _ _ _ q0 (.sc S q0 fun _ => .bl _) (by rw [Bool.beq_eq_decide_eq]; exact h)⟩
  · exact fin h
theorem od_ne (hu : X.A.units + 64 < cLine) : OpR X (compareOp .NotEq) (rD X.K G (eqD true)) := by
  intro pins s σ H x y v u Q I rx ry h
  obtain ⟨δ, σ', dx, ax, dy, ay, R, S, zx, zy, h, kk⟩ := h
  have q0 := S.env.refl
  have dp1 := (zx.mono hid_same).dp
  have dp2 := (zy.mono hid_same).dp
  have fin : min dx.depth dy.depth ≤ 64 ∧ R (.bool (true ^^ PyData.eqv dx dy)) true false → wpAny (model X.prog X.w) X.A (compareOp .NotEq v u) (EP X pins σ Q) X.xe s := fun h =>
    op_neM pins s σ H _ _ v u Q I rx ry ⟨dx, dy, dp1, dp2, zx.clean, zy.clean, by omega, kk _ H _ _ _ q0 (.sc S q0 fun _ => .bl _) (by have := h.2; rwa [Bool.true_xor] at this)⟩
  unfold eqD at h
  split at h
  · cases zx; cases zy
    rw [Bool.true_xor] at h
    exact op_ne pins s σ H _ _ v u Q I rx ry ⟨rfl, by rw [dec_int]; exact kk _ H _ _ _ q0 (.sc S q0 fun _ => .bl _) (by rw [Bool.beq_eq_decide_eq]; exact h)⟩
  · cases zx; cases zy
    rw [Bool.true_xor] at h
    exact op_ne pins s σ H _ _ v u Q I rx ry ⟨rfl, by rw [dec_str]; exact kk _ H _ _ _ q0 (.sc S q0 fun _ => .bl _) (by rw [Bool.beq_eq_decide_eq]; exact h)⟩
  · exact fin h
/-- is None, is not None -/
def isNone : D → Bool
  | .none => true
  | _ => false
def isN (neg : Bool) : TBd := fun x _ y _ R => match y with
  | .none => R (.bool (neg ^^ isNone x)) true false
  | _ => False
theorem od_is : OpR X (compareOp .Is) (rD X.K G (isN false)) := by
  intro pins s σ H x y v u Q I rx ry h
  obtain ⟨δ, σ', dx, ax, dy, ay, R, S, zx, zy, h, kk⟩ := h
  have q0 := S.env.refl
  cases dy with
  | none =>
    cases zy
    refine op_isN pins s σ H _ _ v u Q I rx ry ⟨rfl, kk _ H _ _ _ q0 (.sc S q0 fun _ => .bl _) ?_⟩
    have h : R (.bool (false ^^ isNone dx)) true false := h
    rw [Bool.false_xor] at h
    cases zx <;> exact h
  | _ => exact h.elim
theorem od_isnot : OpR X (compareOp .IsNot) (rD X.K G (isN true)) := by
  intro pins s σ H x y v u Q I rx ry h
  obtain ⟨δ, σ', dx, ax, dy, ay, R, S, zx, zy, h, kk⟩ := h
  have q0 := S.env.refl
  cases dy with
  | none =>
    cases zy
    refine op_notN pins s σ H _ _ v u Q I rx ry ⟨rfl, kk _ H _ _ _ q0 (.sc S q0 fun _ => .bl _) ?_⟩
    have h : R (.bool (true ^^ isNone dx)) true false := h
    rw [Bool.true_xor] at h
    cases zx <;> exact h
  | _ => exact h.elim
end
/-! ### unary, subscripts, slices -/
section
variable {X : Cx} {G : Gd} {pos p2 : Pos} {a b e : Expr} {ta tb t : TEd}
def tdNeg (t : TEd) : TEd := fun δ R => t δ fun d _ _ => match d with
  | .int i => R (.int (-i)) true false
  | _ => False
theorem de_neg (h : DE X G a t) : DE X G (.UnaryOp .USub a pos) (tdNeg t) := by
  refine ⟨PE.imp (pe_un un_neg h.pe) fun σ H Q h => ?_⟩
  obtain ⟨δ, R, S, h, kk⟩ := h
  refine ⟨δ, _, S, h, fun v H1 d a f q1 d1 r1 => ?_⟩
  cases d with
  | int i => cases d1.z; exact ⟨i, rfl, kk _ H1 _ _ _ q1 (.sc S q1 fun _ => .int _) r1⟩
  | _ => exact r1.elim
def ixD : TBd := fun x ax y _ R => match x, y with
  | .tuple xs, .int i => ∃ d, atI xs i = some d ∧ R d ax false
  | .list xs, .int i => ∃ d, atI xs i = some d ∧ R d ax false
  | .str z, .int i => z.length ≤ sizeLine ∧ ∃ c, atI z.cps.toList i = some c ∧ R (.str ⟨#[c]⟩) true false
  | _, _ => False
theorem atI_vs {K : PySem.W.Frag} {H : Hp} {vs : List V} {xs : List D} {i : Int} {d : D} (h : DqAll K H vs xs) (e : atI xs i = some d) : ∃ v, atI vs i = some v ∧ Dq K H v d := by
  unfold atI at e ⊢
  rw [h.length]
  cases q : ixN xs.length i with
  | none => rw [q] at e; cases e
  | some j => rw [q] at e; exact h.get e
theorem ixd : IxR X (rD X.K G ixD) := by
  intro ve se pins s σ H x y v u Q I rx ry h hop
  obtain ⟨δ, σ', dx, ax, dy, ay, R, S, zx, zy, h, kk⟩ := h
  have q0 := S.env.refl
  cases dx with
  | tuple xs => cases dy with
    | int i =>
      obtain ⟨d, e, h⟩ := h
      cases zy
      cases zx with
      | @tup p vs _ h1 d1 =>
      obtain ⟨w, ew, dw⟩ := atI_vs d1 e
      exact ix_tup ve se pins s σ H _ _ v u Q I rx ry ⟨p, vs, i, w, rfl, rfl, Same.sqT hid_same h1, ew, kk w H d ax false q0 ⟨dw, fun z => by cases z⟩ h⟩ hop
    | _ => exact h.elim
  | list xs => cases dy with
    | int i =>
      obtain ⟨d, e, h⟩ := h
      cases zy
      cases zx with
      | @lst p vs _ h1 d1 =>
      obtain ⟨w, ew, dw⟩ := atI_vs d1 e
      exact ix_list ve se pins s σ H _ _ v u Q I rx ry ⟨p, vs, i, w, rfl, rfl, SqL.of (hid_some.mp h1).2, ew, kk w H d ax false q0 ⟨dw, fun z => by cases z⟩ h⟩ hop
    | _ => exact h.elim
  | str z => cases dy with
    | int i =>
      obtain ⟨hz, c, e, h⟩ := h
      have s1 : sok z := zx.clean
      have s2 : c ∈ z.cps.toList := by
        unfold atI at e
        cases q : ixN z.cps.toList.length i with
        | none => rw [q] at e; cases e
        | some j => rw [q] at e; exact List.mem_of_getElem? e
      cases zx; cases zy
      exact ix_str ve se pins s σ H _ _ v u Q I rx ry ⟨z, i, c, rfl, rfl, hz, e, kk _ H _ _ _ q0 (.sc S q0 fun _ => .str _ (sok_one s1 s2)) h⟩ hop
    | _ => exact h.elim
  | _ => cases dy <;> exact h.elim
theorem de_ix (ha : DE X G a ta) (hb : DE X G b tb) (hs : PlainIx b := by intro _ _; rfl) : DE X G (.Subscript a b pos) (tdBin ixD ta tb) := ⟨PE.imp (pe_ix ixd ha.pe hb.pe hs) fun σ H Q h => bin_read h⟩
/-- an end of a slice -/
abbrev TOd := List SD → (Option Int → Prop) → Prop
def lO (K : PySem.W.Frag) (G : Gd) (t : TOd) : TO := fun σ H Q => ∃ δ R, SR K G δ σ H ∧ t δ R ∧ ∀ o H', Qs G H H' → R o → Q o H'
structure DO (X : Cx) (G : Gd) (e : Option Expr) (t : TOd) : Prop where
  po : PO X e (lO X.K G t)
theorem PO.imp {X : Cx} {e : Option Expr} {t t' : TO} (h : PO X e t) (i : ∀ σ H Q, t' σ H Q → t σ H Q) : PO X e t' := ⟨fun pins s σ H Q I hw => h.run pins s σ H Q I (i σ H Q hw)⟩
def tdO0 : TOd := fun _ R => R none
def tdO1 (t : TEd) : TOd := fun δ R => t δ fun d _ _ => match d with
  | .int i => R (some i)
  | _ => False
theorem do_none : DO X G none tdO0 := ⟨PO.imp po_none fun σ H Q h => by
  obtain ⟨δ, R, S, h, kk⟩ := h
  exact kk none H S.env.refl h⟩
theorem do_some (h : DE X G e t) : DO X G (some e) (tdO1 t) := ⟨PO.imp (po_some h.pe) fun σ H Q h => by
  obtain ⟨δ, R, S, h, kk⟩ := h
  refine ⟨δ, _, S, h, fun v H1 d a f q1 d1 r1 => ?_⟩
  cases d with
  | int i => cases d1.z; exact ⟨i, rfl, kk _ H1 q1 r1⟩
  | _ => exact r1.elim⟩
def cutD (xs : List D) (lo hi : Option Int) : List D := (xs.drop (HT.sIx xs.length 0 lo)).take (HT.sIx xs.length xs.length hi - HT.sIx xs.length 0 lo)
def tdSl (t : TEd) (tl th : TOd) : TEd := fun δ R => t δ fun x ax _ => tl δ fun lo => th δ fun hi => match x with
  | .tuple xs => R (.tuple (cutD xs lo hi)) ax false
  | .list xs => R (.list (cutD xs lo hi)) ax true
  | .str z => z.length ≤ sizeLine ∧ R (.str (cutS z lo hi)) true false
  | _ => False
def rSlAny (K : PySem.W.Frag) : V → Option Int → Option Int → Hp → VK → Prop := fun x lo hi H Q => rSlA K x lo hi H Q ∨ rSlL K x lo hi H Q ∨ rSlS x lo hi H Q
theorem sl_any : SlR X (rSlAny X.K) := sl_tupA.or (sl_list.or sl_str)
theorem cut_whole {α : Type} (xs : List α) {lo hi : Option Int} (h : HT.sIx xs.length 0 lo = 0 ∧ HT.sIx xs.length xs.length hi = xs.length) : (xs.drop (HT.sIx xs.length 0 lo)).take (HT.sIx xs.length xs.length hi - HT.sIx xs.length 0 lo) = xs := by
  rw [h.1, h.2]; simp
theorem de_sl {lo hi : Option Expr} {tl th : TOd} (he : DE X G e t) (hl : DO X G lo tl) (hu : DO X G hi th) : DE X G (.Subscript e (.Slice lo hi none p2) pos) (tdSl t tl th) := by
  refine ⟨PE.imp (pe_slice sl_any he.pe hl.po hu.po) fun σ H Q h => ?_⟩
  obtain ⟨δ, R, S, h, kk⟩ := h
  refine ⟨δ, _, S, h, fun v H1 d a f q1 d1 r1 => ⟨δ, _, S.quiet q1, r1, fun o1 H2 q2 r2 => ⟨δ, _, (S.quiet q1).quiet q2, r2, fun o2 H3 q3 r3 => ?_⟩⟩⟩
  have q23 := q2.trans q3
  have q := q1.trans q23
  have S1 := S.quiet q1
  have S3 := S1.quiet q23
  have z := d1.z.mono (hP_step S1.env q23)
  cases d with
  | tuple xs =>
    cases z with
    | @tup p vs _ h1 hd =>
    refine .inl ⟨p, vs, rfl, Same.sqT hid_same h1, fun w => ?_, fun w r hr => ?_⟩
    · refine kk _ H3 _ a false q ⟨.tup h1 hd, fun z => by cases z⟩ ?_
      have e : cutD xs o1 o2 = xs := by unfold cutD; rw [hd.length] at w; exact cut_whole xs w
      have r3 : R (.tuple (cutD xs o1 o2)) a false := r3
      rw [e] at r3; exact r3
    · obtain ⟨q4, r4⟩ := VR.newTup S q hr ⟨hd.cut o1 o2⟩
      exact kk _ _ _ _ _ q4 r4 r3
  | list xs =>
    cases z with
    | @lst p vs _ h1 hd =>
    refine .inr (.inl ⟨p, vs, rfl, SqL.of (hid_some.mp h1).2, fun r hr => ?_⟩)
    obtain ⟨q4, r4⟩ := VR.newLst S q hr ⟨hd.cut o1 o2⟩
    exact kk _ _ _ _ _ q4 r4 r3
  | str x =>
    have s1 : sok x := z.clean
    cases z
    exact .inr (.inr ⟨x, rfl, r3.1, kk _ H3 _ _ _ q (.sc S q fun _ => .str _ (sok_cut s1)) r3.2⟩)
  | _ => exact r3.elim
/-- xs[::-1], a list -/
def tdRev (t : TEd) : TEd := fun δ R => t δ fun x ax _ => match x with
  | .list xs => R (.list xs.reverse) ax true
  | _ => False
theorem de_rev {k : Nat} {p1 p3 p4 : Pos} (he : DE X G e t) : DE X G (.Subscript e (.Slice none none (some (.UnaryOp .USub (.Constant (.int 1) k p1) p3)) p4) pos) (tdRev t) := by
  refine ⟨PE.imp (pe_revL he.pe) fun σ H Q h => ?_⟩
  obtain ⟨δ, R, S, h, kk⟩ := h
  refine ⟨δ, _, S, h, fun v H1 d a f q1 d1 r1 => ?_⟩
  cases d with
  | list xs =>
    cases d1.z with
    | @lst p vs _ h1 hd =>
    refine ⟨p, vs, rfl, SqL.of (hid_some.mp h1).2, fun r hr => ?_⟩
    obtain ⟨q4, r4⟩ := VR.newLst S q1 hr ⟨hd.reverse⟩
    exact kk _ _ _ _ _ q4 r4 r1
  | _ => exact r1.elim
end
end DL

set_option Elab.async false
set_option linter.all false
set_option maxRecDepth 100000
set_option maxHeartbeats 4000000
namespace DL
open PySem PySem.Spec PyProof.Rows L2
abbrev TCd := List D → Bool → (D → Bool → Bool → Prop) → Prop
def rC (K : PySem.W.Frag) (G : Gd) (tc : TCd) : List V → Hp → VK → Prop := fun vs H Q => ∃ δ σ ds a R, SR K G δ σ H ∧ DqAll K (hid (hP G (addrs δ) a) H) vs ds ∧ tc ds a R ∧
  ∀ v H' d a f, Qs G H H' → VR K G (addrs δ) H v H' d a f → R d a f → Q v H'
def tdCB (ta : TAd) (tc : TCd) : TEd := fun δ R => ta δ fun ds a => tc ds a R
section
variable {X : Cx} {G : Gd} {pos p : Pos} {e : Expr} {es : List Expr} {ta : TAd} {tc : TCd} {x : Str} {id T : String}
theorem cb_read {K : PySem.W.Frag} {σ : L2.St} {H : Hp} {Q : VK} (h : lE K G (tdCB ta tc) σ H Q) : tCB (rC K G tc) (lA K G ta) σ H Q := by
  obtain ⟨δ, R, S, h, kk⟩ := h
  refine ⟨δ, _, S, h, fun vs H1 ds a q1 d1 r1 => ⟨δ, σ, ds, a, R, S.quiet q1, d1.z, r1, fun v H' d a f q r hr => kk v H' d a f (q1.trans q) (r.from S.env q1) hr⟩⟩
theorem de_callB (hc : CallR X (.builtin id) (rC X.K G tc)) (hm : X.mg x = none) (hv : bootBuiltins x = some (.builtin id)) (ha : DA X G (e :: es) ta) (hg : Gl X x := by rfl) (hn : x ≠ "__name__" := by decide) (hdb : (x == ("__debug__" : Str)) = false := by decide)
    (he : starEach (e :: es) X.env = (false, eval e X.env) :: starEach es X.env := by rfl) (hpl : (backTo pos (starEach es X.env)).any (·.1) = false := by rfl) : DE X G (.Call (.Name x p) (e :: es) [] pos) (tdCB ta tc) :=
  ⟨PE.imp (pe_callB hc hg hm hv ha.pa hn hdb he hpl) fun σ H Q h => cb_read h⟩
theorem de_callT (hc : CallR X (.type T) (rC X.K G tc)) (hm : X.mg x = none) (hv : bootBuiltins x = some (.type T)) (ha : DA X G (e :: es) ta) (hg : Gl X x := by rfl) (hn : x ≠ "__name__" := by decide) (hdb : (x == ("__debug__" : Str)) = false := by decide)
    (he : starEach (e :: es) X.env = (false, eval e X.env) :: starEach es X.env := by rfl) (hpl : (backTo pos (starEach es X.env)).any (·.1) = false := by rfl) : DE X G (.Call (.Name x p) (e :: es) [] pos) (tdCB ta tc) :=
  ⟨PE.imp (pe_callTy hc hg hm hv ha.pa hn hdb he hpl) fun σ H Q h => cb_read h⟩
theorem one_of {K : PySem.W.Frag} {H : Hp} {vs : List V} {d : D} (h : DqAll K H vs [d]) : ∃ v, vs = [v] ∧ Dq K H v d := by
  cases h with | cons a b => cases b; exact ⟨_, rfl, a⟩
theorem two_of {K : PySem.W.Frag} {H : Hp} {vs : List V} {d e : D} (h : DqAll K H vs [d, e]) : ∃ v w, vs = [v, w] ∧ Dq K H v d ∧ Dq K H w e := by
  cases h with | cons a b => cases b with | cons b c => cases c; exact ⟨_, _, rfl, a, b⟩
/-- a built-in of one argument -/
theorem cr_one {f : Value} {t1 : D → Bool → (D → Bool → Bool → Prop) → Prop} (h : ∀ (pins : List (Addr × Obj)) (s : Shared) (σ σ' : L2.St) (H : Hp) (δ : List SD) (v : V) (u : Value) (d : D) (a : Bool) (R : D → Bool → Bool → Prop) (Q : VK), Inv X pins σ H s → SR X.K G δ σ' H → RelV v u → Dq X.K (hid (hP G (addrs δ) a) H) v d → t1 d a R →
      (∀ v H' d a f, Qs G H H' → VR X.K G (addrs δ) H v H' d a f → R d a f → Q v H') → wpAny (model X.prog X.w) X.A (call f [u]) (EP X pins σ Q) X.xe s) :
    CallR X f (rC X.K G fun ds a R => match ds with | [d] => t1 d a R | _ => False) := by
  intro pins s σ H vs us Q I rv hh
  obtain ⟨δ, σ', ds, a, R, S, z, h1, kk⟩ := hh
  match ds, z, h1 with
  | [d], z, h1 =>
    obtain ⟨v, rfl, dv⟩ := one_of z
    obtain ⟨u, rfl, ru⟩ := vals1 rv
    exact h pins s σ σ' H δ v u d a R Q I S ru dv h1 kk
def lenD (d : D) (_ : Bool) (R : D → Bool → Bool → Prop) : Prop := match d with
  | .tuple xs => R (.int xs.length) true false
  | .list xs => R (.int xs.length) true false
  | .str z => z.length ≤ sizeLine ∧ R (.int z.length) true false
  | _ => False
abbrev c1 (t1 : D → Bool → (D → Bool → Bool → Prop) → Prop) : TCd := fun ds a R => match ds with | [d] => t1 d a R | _ => False
theorem cd_len : CallR X (.builtin "len") (rC X.K G (c1 lenD)) := cr_one fun pins s σ σ' H δ v u d a R Q I S ru dv h kk => by
  have q0 := S.env.refl
  cases d with
  | tuple xs =>
    cases dv with
    | @tup p ws _ hs hd => exact call_len_seq pins s σ H [_] [u] Q I (.cons ru .nil) ⟨p, ws, rfl, .inr (Same.sqT hid_same hs), by rw [hd.length]; exact kk _ H _ _ _ q0 (.sc S q0 fun _ => .int _) h⟩
  | list xs =>
    cases dv with
    | @lst p ws _ hs hd => exact call_len_seq pins s σ H [_] [u] Q I (.cons ru .nil) ⟨p, ws, rfl, .inl (SqL.of (hid_some.mp hs).2), by rw [hd.length]; exact kk _ H _ _ _ q0 (.sc S q0 fun _ => .int _) h⟩
  | str z =>
    cases dv
    exact call_len_str pins s σ H [_] [u] Q I (.cons ru .nil) ⟨z, rfl, h.1, kk _ H _ _ _ q0 (.sc S q0 fun _ => .int _) h.2⟩
  | _ => exact h.elim
def absD (d : D) (_ : Bool) (R : D → Bool → Bool → Prop) : Prop := match d with
  | .int i => R (.int (if i < 0 then -i else i)) true false
  | _ => False
theorem cd_abs : CallR X (.builtin "abs") (rC X.K G (c1 absD)) := cr_one fun pins s σ σ' H δ v u d a R Q I S ru dv h kk => by
  have q0 := S.env.refl
  cases d with
  | int i => cases dv; exact call_abs pins s σ H [_] [u] Q I (.cons ru .nil) ⟨i, rfl, kk _ H _ _ _ q0 (.sc S q0 fun _ => .int _) h⟩
  | _ => exact h.elim
def intD (d : D) (_ : Bool) (R : D → Bool → Bool → Prop) : Prop := match d with
  | .int i => R (.int i) true false
  | .bool b => R (.int (if b then 1 else 0)) true false
  | _ => False
theorem cd_int : CallR X (.type "int") (rC X.K G (c1 intD)) := cr_one fun pins s σ σ' H δ v u d a R Q I S ru dv h kk => by
  have q0 := S.env.refl
  cases d with
  | int i => cases dv; exact call_int1 pins s σ H [_] [u] Q I (.cons ru .nil) (.inl ⟨i, rfl, kk _ H _ _ _ q0 (.sc S q0 fun _ => .int _) h⟩)
  | bool i => cases dv; exact call_int1 pins s σ H [_] [u] Q I (.cons ru .nil) (.inr ⟨i, rfl, kk _ H _ _ _ q0 (.sc S q0 fun _ => .int _) h⟩)
  | _ => exact h.elim
def boolD (d : D) (_ : Bool) (R : D → Bool → Bool → Prop) : Prop := match d with
  | .int i => R (.bool (i != 0)) true false
  | .bool b => R (.bool b) true false
  | _ => False
theorem cd_bool : CallR X (.type "bool") (rC X.K G (c1 boolD)) := cr_one fun pins s σ σ' H δ v u d a R Q I S ru dv h kk => by
  have q0 := S.env.refl
  cases d with
  | int i => cases dv; exact call_bool1 pins s σ H [_] [u] Q I (.cons ru .nil) (.inl ⟨i, rfl, kk _ H _ _ _ q0 (.sc S q0 fun _ => .bl _) h⟩)
  | bool i => cases dv; exact call_bool1 pins s σ H [_] [u] Q I (.cons ru .nil) (.inr ⟨i, rfl, kk _ H _ _ _ q0 (.sc S q0 fun _ => .bl _) h⟩)
  | _ => exact h.elim
def listD (d : D) (a : Bool) (R : D → Bool → Bool → Prop) : Prop := match d with
  | .list xs => R (.list xs) a true
  | .tuple xs => R (.list xs) a true
  | _ => False
theorem cd_list : CallR X (.type "list") (rC X.K G (c1 listD)) := cr_one fun pins s σ σ' H δ v u d a R Q I S ru dv h kk => by
  have q0 := S.env.refl
  cases d with
  | tuple xs =>
    cases dv with
    | @tup p ws _ hs hd =>
      refine call_list_of pins s σ H [_] [u] Q I (.cons ru .nil) ⟨p, ws, rfl, .inr (Same.sqT hid_same hs), fun l hl => ?_⟩
      obtain ⟨q1, r1⟩ := VR.newLst S q0 hl ⟨hd⟩
      exact kk _ _ _ _ _ q1 r1 h
  | list xs =>
    cases dv with
    | @lst p ws _ hs hd =>
      refine call_list_of pins s σ H [_] [u] Q I (.cons ru .nil) ⟨p, ws, rfl, .inl (SqL.of (hid_some.mp hs).2), fun l hl => ?_⟩
      obtain ⟨q1, r1⟩ := VR.newLst S q0 hl ⟨hd⟩
      exact kk _ _ _ _ _ q1 r1 h
  | _ => exact h.elim
def tupD (d : D) (a : Bool) (R : D → Bool → Bool → Prop) : Prop := match d with
  | .list xs => R (.tuple xs) a false
  | .tuple xs => R (.tuple xs) a false
  | _ => False
theorem cd_tup : CallR X (.type "tuple") (rC X.K G (c1 tupD)) := cr_one fun pins s σ σ' H δ v u d a R Q I S ru dv h kk => by
  have q0 := S.env.refl
  cases d with
  | tuple xs =>
    cases dv with
    | @tup p ws _ hs hd => exact call_tuple_of pins s σ H [_] [u] Q I (.cons ru .nil) ⟨p, ws, rfl, .inr ⟨Same.sqT hid_same hs, kk _ H _ a false q0 ⟨.tup hs hd, fun z => by cases z⟩ h⟩⟩
  | list xs =>
    cases dv with
    | @lst p ws _ hs hd =>
      refine call_tuple_of pins s σ H [_] [u] Q I (.cons ru .nil) ⟨p, ws, rfl, .inl ⟨SqL.of (hid_some.mp hs).2, fun l hl => ?_⟩⟩
      obtain ⟨q1, r1⟩ := VR.newTup S q0 hl ⟨hd⟩
      exact kk _ _ _ _ _ q1 r1 h
  | _ => exact h.elim
/-- all(..), any(..) of a list of truth values -/
def allD (d : D) (_ : Bool) (R : D → Bool → Bool → Prop) : Prop := match d with
  | .list xs => ∃ bs : List Bool, xs = bs.map .bool ∧ R (.bool (bs.all fun b => b)) true false
  | _ => False
theorem cd_all (hc : X.calm = true) : CallR X (.builtin "all") (rC X.K G (c1 allD)) := cr_one fun pins s σ σ' H δ v u d a R Q I S ru dv h kk => by
  have q0 := S.env.refl
  cases d with
  | list xs =>
    obtain ⟨bs, rfl, h⟩ := h
    cases dv with
    | @lst p ws _ hs hd =>
    have := hd.bools
    subst this
    exact cr_all hc pins s σ H [_] [u] Q I (.cons ru .nil) ⟨p, bs, rfl, SqL.of (hid_some.mp hs).2, kk _ H _ _ _ q0 (.sc S q0 fun _ => .bl _) h⟩
  | _ => exact h.elim
def anyD (d : D) (_ : Bool) (R : D → Bool → Bool → Prop) : Prop := match d with
  | .list xs => ∃ bs : List Bool, xs = bs.map .bool ∧ R (.bool (bs.any fun b => b)) true false
  | _ => False
theorem cd_any (hc : X.calm = true) : CallR X (.builtin "any") (rC X.K G (c1 anyD)) := cr_one fun pins s σ σ' H δ v u d a R Q I S ru dv h kk => by
  have q0 := S.env.refl
  cases d with
  | list xs =>
    obtain ⟨bs, rfl, h⟩ := h
    cases dv with
    | @lst p ws _ hs hd =>
    have := hd.bools
    subst this
    exact cr_any hc pins s σ H [_] [u] Q I (.cons ru .nil) ⟨p, bs, rfl, SqL.of (hid_some.mp hs).2, kk _ H _ _ _ q0 (.sc S q0 fun _ => .bl _) h⟩
  | _ => exact h.elim
def sumD (d : D) (_ : Bool) (R : D → Bool → Bool → Prop) : Prop := match d with
  | .list xs => ∃ ns : List Int, xs = ns.map .int ∧ R (.int ns.sum) true false
  | _ => False
theorem cd_sum (hc : X.calm = true) : CallR X (.builtin "sum") (rC X.K G (c1 sumD)) := cr_one fun pins s σ σ' H δ v u d a R Q I S ru dv h kk => by
  have q0 := S.env.refl
  cases d with
  | list xs =>
    obtain ⟨ns, rfl, h⟩ := h
    cases dv with
    | @lst p ws _ hs hd =>
    have := hd.ints
    subst this
    exact cr_sum hc pins s σ H [_] [u] Q I (.cons ru .nil) ⟨p, ns, rfl, SqL.of (hid_some.mp hs).2, kk _ H _ _ _ q0 (.sc S q0 fun _ => .int _) h⟩
  | _ => exact h.elim
/-- max(m, n), min(m, n) -/
def c2i (g : Int → Int → Int) : TCd := fun ds _ R => match ds with
  | [.int i, .int j] => R (.int (g i j)) true false
  | _ => False
theorem cr_two {f : Value} {g : Int → Int → Int} (h : CallR X f (fun xs H Q => ∃ i j, xs = [.int i, .int j] ∧ Q (.int (g i j)) H)) : CallR X f (rC X.K G (c2i g)) := by
  intro pins s σ H vs us Q I rv hh
  obtain ⟨δ, σ', ds, a, R, S, z, h1, kk⟩ := hh
  unfold c2i at h1
  split at h1
  · rename_i i j
    obtain ⟨v, w, rfl, dv, dw⟩ := two_of z
    cases dv; cases dw
    exact h pins s σ H _ us Q I rv ⟨i, j, rfl, kk _ H _ _ _ S.env.refl (.sc S S.env.refl fun _ => .int _) h1⟩
  · exact h1.elim
theorem cd_max (hc : X.calm = true) : CallR X (.builtin "max") (rC X.K G (c2i fun i j => if j > i then j else i)) := cr_two (call_max2 hc)
theorem cd_min (hc : X.calm = true) : CallR X (.builtin "min") (rC X.K G (c2i fun i j => if j < i then j else i)) := cr_two (call_min2 hc)
/-! ### repr -/
def reprD (d : D) (_ : Bool) (R : D → Bool → Bool → Prop) : Prop := d.showable = true ∧ d.depth ≤ 60 ∧ (d.canLay0 = true → d.shown.length ≤ sizeLine) ∧ R (.str d.shown) true false
mutual
theorem Dq.noDict {K : PySem.W.Frag} {H : Hp} : ∀ {d : D} {v : V}, Dq K H v d → d.hasDict = false
  | .none, _, h => rfl
  | .bool _, _, h => rfl
  | .int _, _, h => rfl
  | .str _, _, h => rfl
  | .list ds, _, h => by cases h with | lst e r => simp only [PyData.hasDict]; exact DqAll.noDict r
  | .tuple ds, _, h => by cases h with | tup e r => simp only [PyData.hasDict]; exact DqAll.noDict r
  | .dict _, _, h => by cases h
theorem DqAll.noDict {K : PySem.W.Frag} {H : Hp} : ∀ {ds : List D} {vs : List V}, DqAll K H vs ds → PyData.hasDictAll ds = false
  | [], _, h => rfl
  | d :: ds, _, h => by cases h with | cons h1 h2 => simp only [PyData.hasDictAll, Dq.noDict h1, DqAll.noDict h2, Bool.or_self]
end
theorem cd_repr (hG : Bare X.A) (hu : X.A.units + 64 < cLine) : CallR X (.builtin "repr") (rC X.K G (c1 reprD)) := cr_one fun pins s σ σ' H δ v u d a R Q I S ru dv h kk => by
  have q0 := S.env.refl
  obtain ⟨hs, hdp, hz, h⟩ := h
  have hz := hz dv.clean
  have dp := (dv.mono hid_same).dp
  obtain ⟨as, rd⟩ := Dp.reads I d v u dp ru
  have nd := dv.noDict
  have sk := sok_shown d dv.clean
  have fin : Q (.str d.shown) H := kk _ H _ _ _ q0 (.sc S q0 fun _ => .str _ sk) h
  have go : ∀ b, u = .ref b → wpAny (model X.prog X.w) X.A (call (.builtin "repr") [u]) (EP X pins σ Q) X.xe s := fun b e => by
    subst e
    exact repr_of_reads' rd hs (PyData.noDict_hsm nd) hG (by omega) (fun _ _ e => e) (fun h' w tk hk => ⟨.str d.shown, H, I.kept (t' := tk) hk, ⟨_, rfl⟩, fin⟩) hz
  cases d with
  | int i =>
    cases dv
    exact SkE.call_repr_int pins s σ H [_] [u] Q I (.cons ru .nil) ⟨i, rfl, by simpa [PyData.showable] using hs, by have := fin; rw [PyData.shown_int] at this; exact this⟩
  | list xs => cases dv; cases ru; exact go _ rfl
  | tuple xs => cases dv; cases ru; exact go _ rfl
  | none =>
    cases dv
    obtain rfl : u = Value.none := ru
    exact PySem.P.repr_of_none ⟨.str _, H, I.tok _, ⟨_, rfl⟩, by rw [PyData.shown_none] at fin; exact fin⟩
  | bool b =>
    cases dv
    obtain rfl : u = Value.bool b := ru
    exact PySem.P.repr_of_bool ⟨.str _, H, I.tok _, ⟨_, rfl⟩, by rw [PyData.shown_bool] at fin; exact fin⟩
  | str b =>
    cases dv
    obtain ⟨t, rfl⟩ := ru
    exact PySem.P.repr_of_str ⟨.str _, H, I.tok _, ⟨_, rfl⟩, by rw [PyData.shown_str] at fin; exact fin⟩ (by rw [PyData.shown_str] at hz; exact hz)
  | dict b => cases dv
end
/-! ### isinstance of a built-in type -/
def tyN : D → String
  | .none => "NoneType" | .bool _ => "bool" | .int _ => "int" | .str _ => "str" | .list _ => "list" | .tuple _ => "tuple" | .dict _ => "dict"
theorem tyx_of {K : PySem.W.Frag} {P : List Addr} {H : Hp} {v : V} {d : D} (h : Dq K (hid P H) v d) : TyX K H v (.type (tyN d)) := by
  cases h with
  | non => exact .base .non
  | bl b => exact .base (.bl b)
  | int i => exact .base (.int i)
  | str x => exact .base (.str x)
  | lst e r => exact .base (.lst (hid_some.mp e).2)
  | tup e r =>
    rcases Same.sqT hid_same e with (e | ⟨o, e⟩) | ⟨o, its, n, e, c, _⟩
    · exact .base (.tup e)
    · exact .fTuple e
    · exact .kTuple e c
section
variable {X : Cx} {G : Gd} {pos p pT : Pos} {e : Expr} {t : TEd} {nm : Str} {T : String} {g : D → Bool}
def tdIsi (g : D → Bool) (t : TEd) : TEd := fun δ R => t δ fun d _ _ => R (.bool (g d)) true false
theorem de_isi (T : String) (hT : ∀ d, kitB (tyN d) T = some (g d)) (hm : X.mg "isinstance" = none) (hm2 : X.mg nm = none) (he : DE X G e t) (hv2 : bootBuiltins nm = some (.type T)) (hg : Gl X "isinstance" := by rfl) (hg2 : Gl X nm := by rfl) (hn : nm ≠ "__name__" := by decide) (hdb : (nm == ("__debug__" : Str)) = false := by decide)
    (s1 : starEach [e, .Name nm pT] X.env = (false, eval e X.env) :: starEach [.Name nm pT] X.env := by rfl) (s2 : starEach [.Name nm pT] X.env = (false, eval (.Name nm pT) X.env) :: starEach [] X.env := by rfl) (hpl : (backTo pos (starEach [.Name nm pT] X.env)).any (·.1) = false := by rfl) :
    DE X G (.Call (.Name "isinstance" p) [e, .Name nm pT] [] pos) (tdIsi g t) := by
  refine ⟨PE.imp (pe_callB call_isi hg hm (by decide +kernel) (pa_cons he.pe (pa_cons (pe_bltn (v := .ty T) hg2 hm2 hv2 rfl hn hdb) pa_nil s2) s1) (by decide) (by decide) s1 hpl) fun σ H Q h => ?_⟩
  obtain ⟨δ, R, S, h, kk⟩ := h
  refine ⟨δ, _, S, h, fun v H1 d a f q1 d1 r1 => ?_⟩
  exact ⟨v, .ty T, .type (tyN d), .type T, g d, rfl, .ty T, tyx_of d1.z, kit_ty (hT d), kk _ H1 _ _ _ q1 (.sc S q1 fun _ => .bl _) r1⟩
end
def isInt : D → Bool
  | .int _ => true | .bool _ => true | _ => false
def isBool : D → Bool
  | .bool _ => true | _ => false
def isTup : D → Bool
  | .tuple _ => true | _ => false
def isStrD : D → Bool
  | .str _ => true | _ => false
def isLst : D → Bool
  | .list _ => true | _ => false
def isDct : D → Bool
  | .dict _ => true | _ => false
theorem isi_int (d : D) : kitB (tyN d) "int" = some (isInt d) := by
  cases d with
  | none => exact (by decide +kernel : kitB "NoneType" "int" = some false)
  | bool b => exact (by decide +kernel : kitB "bool" "int" = some true)
  | int b => exact (by decide +kernel : kitB "int" "int" = some true)
  | str b => exact (by decide +kernel : kitB "str" "int" = some false)
  | list b => exact (by decide +kernel : kitB "list" "int" = some false)
  | tuple b => exact (by decide +kernel : kitB "tuple" "int" = some false)
  | dict b => exact (by decide +kernel : kitB "dict" "int" = some false)
theorem isi_bool (d : D) : kitB (tyN d) "bool" = some (isBool d) := by
  cases d with
  | none => exact (by decide +kernel : kitB "NoneType" "bool" = some false)
  | bool b => exact (by decide +kernel : kitB "bool" "bool" = some true)
  | int b => exact (by decide +kernel : kitB "int" "bool" = some false)
  | str b => exact (by decide +kernel : kitB "str" "bool" = some false)
  | list b => exact (by decide +kernel : kitB "list" "bool" = some false)
  | tuple b => exact (by decide +kernel : kitB "tuple" "bool" = some false)
  | dict b => exact (by decide +kernel : kitB "dict" "bool" = some false)
theorem isi_tup (d : D) : kitB (tyN d) "tuple" = some (isTup d) := by
  cases d with
  | none => exact (by decide +kernel : kitB "NoneType" "tuple" = some false)
  | bool b => exact (by decide +kernel : kitB "bool" "tuple" = some false)
  | int b => exact (by decide +kernel : kitB "int" "tuple" = some false)
  | str b => exact (by decide +kernel : kitB "str" "tuple" = some false)
  | list b => exact (by decide +kernel : kitB "list" "tuple" = some false)
  | tuple b => exact (by decide +kernel : kitB "tuple" "tuple" = some true)
  | dict b => exact (by decide +kernel : kitB "dict" "tuple" = some false)
theorem isi_str (d : D) : kitB (tyN d) "str" = some (isStrD d) := by
  cases d with
  | none => exact (by decide +kernel : kitB "NoneType" "str" = some false)
  | bool b => exact (by decide +kernel : kitB "bool" "str" = some false)
  | int b => exact (by decide +kernel : kitB "int" "str" = some false)
  | str b => exact (by decide +kernel : kitB "str" "str" = some true)
  | list b => exact (by decide +kernel : kitB "list" "str" = some false)
  | tuple b => exact (by decide +kernel : kitB "tuple" "str" = some false)
  | dict b => exact (by decide +kernel : kitB "dict" "str" = some false)
theorem isi_lst (d : D) : kitB (tyN d) "list" = some (isLst d) := by
  cases d with
  | none => exact (by decide +kernel : kitB "NoneType" "list" = some false)
  | bool b => exact (by decide +kernel : kitB "bool" "list" = some false)
  | int b => exact (by decide +kernel : kitB "int" "list" = some false)
  | str b => exact (by decide +kernel : kitB "str" "list" = some false)
  | list b => exact (by decide +kernel : kitB "list" "list" = some true)
  | tuple b => exact (by decide +kernel : kitB "tuple" "list" = some false)
  | dict b => exact (by decide +kernel : kitB "dict" "list" = some false)
theorem isi_dct (d : D) : kitB (tyN d) "dict" = some (isDct d) := by
  cases d with
  | none => exact (by decide +kernel : kitB "NoneType" "dict" = some false)
  | bool b => exact (by decide +kernel : kitB "bool" "dict" = some false)
  | int b => exact (by decide +kernel : kitB "int" "dict" = some false)
  | str b => exact (by decide +kernel : kitB "str" "dict" = some false)
  | list b => exact (by decide +kernel : kitB "list" "dict" = some false)
  | tuple b => exact (by decide +kernel : kitB "tuple" "dict" = some false)
  | dict b => exact (by decide +kernel : kitB "dict" "dict" = some true)
end DL

set_option Elab.async false
set_option linter.all false
set_option maxRecDepth 100000
set_option maxHeartbeats 4000000
namespace DL
open PySem PySem.Spec PyProof.Rows L2
/-- a def of the text as the top has left it -/
structure Raw (K : PySem.W.Frag) (mg : Str → Option Value) (x : Str) (st : Stmt) (ps : List Str) : Prop where
  ex : ∃ (f : Addr) (fd : FuncData), Fun K x x st f fd ∧ mg x = some (.ref f) ∧ Binds K fd ps []
/-- a def and what it promises -/
structure Own (P : Program) (w : World) (K : PySem.W.Frag) (mg : Str → Option Value) (base : Heap) (k : Nat) (x : Str) (ps : List Str) (sp : Sp) : Prop where
  ex : ∃ (f : Addr) (fd : FuncData), FnD P w K mg base CX0 k f fd ps sp ∧ mg x = some (.ref f) ∧ PySem.W.keepIn K (.ref f) = true ∧ Binds K fd ps []
theorem Own.imp {P : Program} {w : World} {K : PySem.W.Frag} {mg : Str → Option Value} {base : Heap} {k : Nat} {x : Str} {ps : List Str} {sp sp' : Sp} (O : Own P w K mg base k x ps sp) (h : ∀ vs H Q E, sp' vs H Q E → sp vs H Q E) : Own P w K mg base k x ps sp' := by
  obtain ⟨f, fd, F, r⟩ := O.ex
  exact ⟨f, fd, F.imp h, r⟩
theorem spD_imp {K : PySem.W.Frag} {g g' : Spec} (h : ∀ ds R, g' ds R → g ds R) : ∀ vs H Q E, spD K g' vs H Q E → spD K g vs H Q E := fun vs H Q E ⟨hd, ds, R, a, b, c, d⟩ => ⟨hd, ds, R, a, b, h ds R c, d⟩
theorem spS_imp {K : PySem.W.Frag} {g g' : Spec} (h : ∀ ds R, g' ds R → g ds R) : ∀ vs H Q E, spS K g' vs H Q E → spS K g vs H Q E := fun vs H Q E ⟨a, lc, rest, hd, ds, R, e, a', b, c, d⟩ => ⟨a, lc, rest, hd, ds, R, e, a', b, h ds R c, d⟩
/-- what _law_pick gives: any number from 0 on below the told one -/
def g_law_pick : Spec := fun ds R => ∃ m : Int, ds = [.int m] ∧ m < 1073741824 ∧ ∀ k : Int, 0 ≤ k → k < max 1 m → R (.int k) false
/-- what _law_source is given and gives: the script's ints; a source, new -/
def spSrc (K : PySem.W.Frag) : Sp := fun vs H Q _ => ∃ (a : Addr) (ns : List Int), vs = [.ref a] ∧ SqL K H a (ns.map V.int) ∧ ns.length ≤ 63 ∧ ∀ p lc H', Same H H' → H p = none → H lc = none → p ≠ lc → SrcAt H' p lc → Q (.ref p) H'
/-- the law's own promise -/
def spLaw (K : PySem.W.Frag) : Sp := fun vs H Q _ => ∃ (a : Addr) (ns : List Int), vs = [.ref a] ∧ SqL K H a (ns.map V.int) ∧ ns.length ≤ 63 ∧ ∀ H', Q (.bl true) H'
section
variable {P : Program} {w : World} {K : PySem.W.Frag} {mg : Str → Option Value} {base : Heap} {k : Nat} {st : Stmt} {N : List Str} {t : TSd} {rest : List Stmt} {s0 : Stmt}
/-- the law's def: source = _law_source(script), then the rest over data; script in slot 0, source in slot 1 -/
theorem law_d {f : Addr} {fd : FuncData} (F : Fun K "law" "law" st f fd) (S : FnScope N ["script"] (defScope st)) (O : Own P w K mg base k "_law_source" ["script"] (spSrc K)) (hN : 2 ≤ N.length) (hbody : defBody st = s0 :: rest)
    (h0 : ∀ (f fs : Addr) (fds : FuncData) (cdv : Value) (A : Around) (outer : List PySem.Env) (s : Shared) (H : Hp) (E : XK), Room k (A.deeper (envOfC "law" (defScope st) s.heap.objs.size f cdv)) → Bare A → FnD P w K mg base CX0 k fs fds ["script"] (spSrc K) → mg "_law_source" = some (.ref fs) → PySem.W.keepIn K (.ref fs) = true → Binds K fds ["script"] [] →
      PS (cxOf CX0 P w K mg base N "law" (defScope st) f cdv A outer s H E).nox s0 (tAsg (tCall (spSrc K) [] E0 (tCons (tVar 0) tNil)) (gName 1)))
    (hb : ∀ (f : Addr) (cdv : Value) (A : Around) (outer : List PySem.Env) (s : Shared) (H : Hp) (E : XK) (G : Gd), Room k (A.deeper (envOfC "law" (defScope st) s.heap.objs.size f cdv)) → Bare A → DSs (cxOf CX0 P w K mg base N "law" (defScope st) f cdv A outer s H E).nox G rest t)
    (sem : ∀ x, t { nx := fun _ => False, rt := fun d _ => d = .bool true } (.raw x :: .src :: List.replicate (N.length - 2) .un)) : FnD P w K mg base CX0 (k + 1) f fd ["script"] (spLaw K) := by
  obtain ⟨fs, fds, Fs, ms, ks, bs⟩ := O.ex
  refine fn_ofD F S (fun vs H Q E h => ?_) (fun cdv A outer s H vs Q E hr hG h => ?_)
  · obtain ⟨a, ns, rfl, _⟩ := h; rfl
  · obtain ⟨a, ns, rfl, hS, hl, q⟩ := h
    rw [hbody]
    have h1 := h0 f fs fds cdv A outer s H E hr hG Fs ms ks bs
    have h2 : PSs (cxOf CX0 P w K mg base N "law" (defScope st) f cdv A outer s H E).nox rest (fun D' σ H1 => ∃ G, lS K G t D' σ H1) := ⟨fun pins s' σ H1 D' I h => by obtain ⟨G, h⟩ := h; exact (hb f cdv A outer s H E G hr hG).pss.run pins s' σ H1 D' I h⟩
    refine ⟨_, (pss_cons h1 h2).nox, ?_⟩
    have e0 : (L2.start N [.ref a])[0]? = some (some (V.ref a)) := rfl
    refine ⟨_, e0, a, ns, rfl, hS, hl, fun p lc H' sm hp hlc hne sa => ?_⟩
    refine ⟨⟨H, some (p, lc), [p, lc]⟩, .raw (.ref a) :: .src :: List.replicate (N.length - 2) .un, _, ⟨⟨fun a' lc' e => by cases e; exact sa, fun b hb => hb, fun b hb => (sa.no b hb).1, fun b hb => (sa.no b hb).2, fun b o e n => sm b o e⟩, ?_, ?_, fun i s hi => ?_⟩, sem _, fun δ σ H2 S2 z => z.elim, fun v H2 d ff e2 z2 fr r => ?_, fun δ σ H2 S2 z => z.elim, fun δ σ H2 S2 z => z.elim⟩
    · show (List.replicate (N.length - 2) SD.un).length + 1 + 1 = ((L2.start N [V.ref a]).set 1 (some (V.ref p))).length
      rw [List.length_set, List.length_replicate]
      unfold L2.start
      rw [List.length_append, List.length_map, List.length_replicate]
      show N.length - 2 + 1 + 1 = 1 + (N.length - 1)
      omega
    · rw [addrs_cons_ne (fun _ _ z => by cases z), addrs_cons_ne (fun _ _ z => by cases z), addrs_un]; exact List.nodup_nil
    · match i with
      | 0 =>
        cases hi
        show ((L2.start N [V.ref a]).set 1 (some (V.ref p)))[0]? = some (some (V.ref a))
        rw [List.getElem?_set_ne (by decide)]
        exact e0
      | 1 =>
        cases hi
        refine ⟨p, lc, rfl, ?_⟩
        rw [List.getElem?_set_self]
        unfold L2.start
        rw [List.length_append, List.length_map, List.length_replicate]
        show 1 < 1 + (N.length - 1)
        omega
      | i + 2 =>
        have hi : (List.replicate (N.length - 2) SD.un)[i]? = some s := hi
        rw [List.getElem?_replicate] at hi
        split at hi
        · cases hi; trivial
        · cases hi
    · obtain rfl : d = .bool true := r
      cases z2
      exact q H2
end
end DL

set_option Elab.async false
set_option linter.all false
set_option maxRecDepth 100000
set_option maxHeartbeats 4000000
namespace DL
open PySem PySem.Spec PyProof.Rows L2
/-! ### the laws' own source: the readings of _law_source and _law_pick, over the abstract heap -/
def rAbs1 : List V → Hp → VK → Prop := fun xs H Q => ∃ i, xs = [.int i] ∧ Q (.int (if i < 0 then -i else i)) H
def rInt1 : List V → Hp → VK → Prop := fun xs H Q => (∃ i, xs = [.int i] ∧ Q (.int i) H) ∨ ∃ k, xs = [.bl k] ∧ Q (.int (if k then 1 else 0)) H
def rMax1 : List V → Hp → VK → Prop := fun xs H Q => ∃ i j, xs = [.int i, .int j] ∧ Q (.int (if j > i then j else i)) H
def rLen1 (K : PySem.W.Frag) : List V → Hp → VK → Prop := fun xs H Q => ∃ x n, xs = [x] ∧ LenV K x H n ∧ Q (.int n) H
abbrev rAddI : R2 := rI0 fun i j => .int (i + j)
abbrev rMulI : R2 := rI CMul fun i j => .int (i * j)
abbrev rModI : R2 := rI (fun _ j => j ≠ 0) fun i j => .int (i.fmod j)
abbrev rDivI : R2 := rI CDivN fun i j => .int (i.fdiv j)
abbrev rLtI : R2 := rI0 fun i j => .bl (decide (i < j))
abbrev rGtI : R2 := rI0 fun i j => .bl (decide (j < i))
abbrev tI (i : Int) : TE := tC (.int i)
abbrev tInt (t : TE) : TE := tCB rInt1 (tCons t tNil)
def tSource (K : PySem.W.Frag) : TS :=
  tSeq (tAsg (tI 11) (gName 1))
    (tSeq (tFor (iList K (tVar 0)) (gName 2) (tAsg (tOp rModI (tInt (tOp rAddI (tOp rAddI (tOp rMulI (tVar 1) (tI 69069)) (tOp rMulI (tVar 2) (tI 31))) (tI 5))) (tI 2147483629)) (gName 1)))
      (tRet (tDisp [(tC (.str "cells"), tRevL K (tLc (iList K (tVar 0)) (gName 2) tYes (tCB rAbs1 (tCons (tVar 2) tNil)) (([("cell", 2)] : List (Str × Nat)).map (·.2)))), (tC (.str "left"), tI 1), (tC (.str "mixed"), tVar 1), (tC (.str "turn"), tI 0)])))
abbrev tKey (x : Str) : TE := tDGet (tVar 0) (tC (.str x))
abbrev tMany : TE := tCB rMax1 (tCons (tI 1) (tCons (tVar 1) tNil))
def tPick (K : PySem.W.Frag) : TS :=
  tSeq (tWhile (tAnd (tTest (tOp rGtI (tVar 1) (tI 1))) (tAnd (tTest (tOp rLtI (tKey "left") (tI 2))) (tTest (tOp rGtI (tCB (rLen1 K) (tCons (tKey "cells") tNil)) (tI 0)))))
      (sDPut (tVar 0) (tC (.str "left")) (tBM0 K "list" rPop (tKey "cells"))))
    (tSeq (tAsg (tKey "left") (gName 2))
      (tSeq (tIfS (tOr (tTest (tOp rLtI (tVar 1) (tI 2))) (tTest (tOp rGtI (tVar 2) (tI 1))))
          (tSeq (sDPut (tVar 0) (tC (.str "left")) (tOp rDivI (tVar 2) tMany)) (tRet (tOp rModI (tInt (tVar 2)) tMany))) tNext)
        (tSeq (sDPut (tVar 0) (tC (.str "turn")) (tOp rAddI (tKey "turn") (tI 1)))
          (tSeq (tAsg (tOp rModI (tInt (tOp rAddI (tKey "mixed") (tOp rMulI (tKey "turn") (tI 104729)))) (tI 998244353)) (gName 3))
            (tSeq (tAsg (tOp rModI (tInt (tOp rAddI (tOp rMulI (tVar 3) (tVar 3)) (tOp rMulI (tKey "turn") (tI 17)))) (tI 2147483647)) (gName 3))
              (tSeq (sDPut (tVar 0) (tC (.str "mixed")) (tVar 3))
                (tRet (tOp rModI (tInt (tOp rDivI (tVar 3) (tI 16))) (tVar 1)))))))))
section
variable {K : PySem.W.Frag}
theorem same_upd {H : Hp} {p : Addr} {o : HO} (h : H p = none) : Same H (upd H p o) := fun b u e => by rw [upd_ne fun z => by rw [z, h] at e; cases e]; exact e
theorem fmod_range (a : Int) {b : Int} (hb : 0 < b) : 0 ≤ a.fmod b ∧ a.fmod b < b := by
  rw [Int.fmod_eq_emod_of_nonneg a (by omega)]
  exact ⟨Int.emod_nonneg _ (by omega), Int.emod_lt_of_pos _ hb⟩
theorem source_run {D : L2.Ends} {H : Hp} {vs : List V} {E : XK} (h : spSrc K vs H D.rt E) : tSource K D (L2.start ["script", "mixed", "cell"] vs) H := by
  obtain ⟨a, ns, rfl, hS, hl, q⟩ := h
  show tSource K D [some (.ref a), none, none] H
  have hSL : ∀ H', Same H H' → SqL K H' a (ns.map V.int) := fun H' s => s.seq hS
  refine ⟨.ref a, rfl, a, rfl, ⟨_, hS⟩, for_list (xs := ns.map V.int) (fun _ σ H' => ∃ m y, σ = [some (.ref a), some (.int m), y] ∧ H' = H ∧ 0 ≤ m ∧ m < 2147483629) ⟨11, none, rfl, rfl, by decide, by decide⟩ (fun i σ H' _ h => ?_) (fun i x σ H' hx h => ?_) fun σ H' h => ?_⟩
  · obtain ⟨m, y, rfl, rfl, _⟩ := h
    exact hS
  · obtain ⟨m, y, rfl, rfl, h1, h2⟩ := h
    rw [List.getElem?_map] at hx
    obtain ⟨c, hc, rfl⟩ := Option.map_eq_some_iff.mp hx
    refine ⟨.int m, rfl, m, 69069, rfl, rfl, .inl ⟨by omega, by omega⟩, .int c, rfl, c, 31, rfl, rfl, .inr ⟨by decide, by decide⟩, _, _, rfl, rfl, _, 5, rfl, rfl, .inl ⟨_, rfl, _, 2147483629, rfl, rfl, (show (2147483629 : Int) ≠ 0 by decide), ?_⟩⟩
    exact ⟨_, _, rfl, rfl, fmod_range _ (by decide)⟩
  · obtain ⟨m, y, rfl, rfl, h1, h2⟩ := h
    intro p hp
    refine ⟨.ref a, rfl, a, rfl, ⟨_, hSL _ (same_upd hp)⟩, fun L hL => ?_⟩
    have hpL : L ≠ p := fun z => by rw [z, upd_same] at hL; cases hL
    refine lc_list (xs := ns.map V.int) (fun i H2 => H2 = upd (upd H' p (.dK [])) L (.lst (((ns.take i).map Int.natAbs).map fun (n : Nat) => V.int n))) ?_ ?_ ?_ ?_
    · rfl
    · rintro i H2 _ rfl
      exact hSL _ ((same_upd hp).trans (same_upd hL))
    · rintro i x H2 hx rfl
      rw [List.getElem?_map] at hx
      obtain ⟨c, hc, rfl⟩ := Option.map_eq_some_iff.mp hx
      refine ⟨rfl, .int c, rfl, c, rfl, _, upd_same, ?_, ?_⟩
      · rw [List.length_map, List.length_map, List.length_take, sizeLine_eq]; omega
      · rw [upd_upd]
        have e : ns.take (i + 1) = ns.take i ++ [c] := by rw [List.take_add_one, hc]; rfl
        rw [e, List.map_append, List.map_append]
        have e2 : (if c < 0 then -c else c) = ((c.natAbs : Nat) : Int) := by split <;> omega
        rw [e2]; rfl
    · rintro H2 rfl
      rw [List.length_map, List.take_length]
      refine ⟨L, _, rfl, SqL.of upd_same, fun R hR => ?_⟩
      have hRp : R ≠ p := fun z => by rw [z, upd_ne (Ne.symm hpL), upd_same] at hR; cases hR
      have hRL : R ≠ L := fun z => by rw [z, upd_same] at hR; cases hR
      have hR0 : H' R = none := by rw [upd_ne hRL, upd_ne hRp] at hR; exact hR
      refine ⟨_, rfl, ?_, [(.inr "cells", .ref R), (.inr "left", .int 1), (.inr "mixed", .int m), (.inr "turn", .int 0)], rfl, (show 4 ≤ 15 by decide), ?_⟩
      · rw [upd_ne (Ne.symm hRp), upd_ne (Ne.symm hpL), upd_same]
      · refine q p R _ (fun b o e => ?_) hp hR0 (Ne.symm hRp) ⟨⟨((ns.map Int.natAbs).map fun (n : Nat) => (n : Int)).reverse, 1, m, 0, ?_, ?_, by decide, fun c hc => ?_, ?_⟩⟩
        · have n1 : b ≠ p := fun z => by rw [z, hp] at e; cases e
          have n2 : b ≠ R := fun z => by rw [z, hR0] at e; cases e
          have n3 : b ≠ L := fun z => by rw [upd_ne hpL] at hL; rw [z, hL] at e; cases e
          rw [upd_ne n1, upd_ne n2, upd_ne n3, upd_ne n1]; exact e
        · rw [upd_same]; rfl
        · rw [upd_ne hRp, upd_same, List.map_reverse, List.map_map, List.map_map, List.map_map]
          rfl
        · rw [List.mem_reverse, List.mem_map] at hc
          obtain ⟨n, _, rfl⟩ := hc
          omega
        · rw [List.length_reverse, List.length_map, List.length_map]; exact hl
theorem if_max (m : Int) : (if m > 1 then m else 1) = max 1 m := by
  rw [Int.max_def]
  split <;> split <;> omega
structure Pk (H : Hp) (a lc : Addr) (H' : Hp) (cells : List Int) (left mixed turn : Int) : Prop where
  d : H' a = some (.dK (srcFs lc left mixed turn))
  c : H' lc = some (.lst (cells.map V.int))
  l0 : 0 ≤ left
  cp : ∀ c ∈ cells, 0 ≤ c
  cl : cells.length ≤ 63
  k : ∀ b o, H b = some o → b ∉ [a, lc] → H' b = some o
theorem Pk.ne {H H' : Hp} {a lc : Addr} {cells : List Int} {left mixed turn : Int} (h : Pk H a lc H' cells left mixed turn) : a ≠ lc := fun z => by
  have h1 := h.d
  rw [z, h.c] at h1
  cases h1
theorem put_left {lc : Addr} {left mixed turn v : Int} : putK (srcFs lc left mixed turn) (.inr "left") (.int v) = srcFs lc v mixed turn := rfl
theorem put_mixed {lc : Addr} {left mixed turn v : Int} : putK (srcFs lc left mixed turn) (.inr "mixed") (.int v) = srcFs lc left v turn := rfl
theorem put_turn {lc : Addr} {left mixed turn v : Int} : putK (srcFs lc left mixed turn) (.inr "turn") (.int v) = srcFs lc left mixed v := rfl
section
variable {H H' : Hp} {a lc : Addr} {cells : List Int} {left mixed turn : Int}
theorem Pk.write (h : Pk H a lc H' cells left mixed turn) {l m t : Int} (hl : 0 ≤ l) : Pk H a lc (upd H' a (.dK (srcFs lc l m t))) cells l m t :=
  ⟨upd_same, by rw [upd_ne h.ne.symm]; exact h.c, hl, h.cp, h.cl, fun b o e n => by rw [upd_ne fun z => n (by rw [z]; exact List.mem_cons_self)]; exact h.k b o e n⟩
theorem Pk.popd {x : Int} (h : Pk H a lc H' (cells ++ [x]) left mixed turn) : Pk H a lc (upd H' lc (.lst (cells.map V.int))) cells left mixed turn :=
  ⟨by rw [upd_ne h.ne]; exact h.d, upd_same, h.l0, fun c hc => h.cp c (List.mem_append_left _ hc), by have := h.cl; rw [List.length_append] at this; simp at this; omega,
    fun b o e n => by rw [upd_ne fun z => n (by rw [z]; exact List.mem_cons_of_mem _ List.mem_cons_self)]; exact h.k b o e n⟩
theorem Pk.lk {x : Str} {v : V} (h : Pk H a lc H' cells left mixed turn) (e : valV (srcFs lc left mixed turn) (.inr x) = some v) : DGet H' a (.str x) (some v) := by
  exact (show DGet H' a (kV (.inr x)) (some v) by rw [← e]; exact DGet.k h.d)
theorem Pk.at (h : Pk H a lc H' cells left mixed turn) : SrcAt H' a lc := ⟨⟨cells, left, mixed, turn, h.d, h.c, h.l0, h.cp, h.cl⟩⟩
theorem Pk.dp {x : Str} {v : V} (h : Pk H a lc H' cells left mixed turn) {fs : List (Key × V)} (e : putK (srcFs lc left mixed turn) (.inr x) v = fs) : DPut H' a (.str x) v (upd H' a (.dK fs)) := by
  exact (show DPut H' a (kV (.inr x)) v (upd H' a (.dK fs)) by rw [← e]; exact DPut.k h.d (show 4 < sizeLine by rw [sizeLine_eq]; decide))
end
theorem pick_run {D : L2.Ends} {H : Hp} {vs : List V} {E : XK} (h : spS K g_law_pick vs H D.rt E) : tPick K D (L2.start ["source", "many", "left", "mixed"] vs) H := by
  obtain ⟨a, lc, rest, hd, ds, R, rfl, en, z, ⟨m, rfl, hm, r⟩, q⟩ := h
  cases z with | cons z1 z2 => ?_
  cases z2
  cases z1
  obtain ⟨⟨c0, l0, m0, t0, e1, e2, e3, e4, e5⟩⟩ := en.src a lc rfl
  have p0 : Pk H a lc H c0 l0 m0 t0 := ⟨e1, e2, e3, e4, e5, fun b o e _ => e⟩
  have back : ∀ {H' : Hp} {cells : List Int} {l mi t k : Int}, Pk H a lc H' cells l mi t → 0 ≤ k → k < max 1 m → D.rt (.int k) H' := fun p h1 h2 => q _ _ _ _ ⟨fun b o e n => p.k b o e n, fun a' lc' e => by cases e; exact p.at⟩ (.int _) (fun z => by cases z) (r _ h1 h2)
  show tPick K D [some (.ref a), some (.int m), none, none] H
  refine while_by (fun σ H' => σ = [some (.ref a), some (.int m), none, none] ∧ ∃ cells l mi t, Pk H a lc H' cells l mi t) (fun σ H' => match H' lc with | some (.lst xs) => xs.length | _ => 0) ⟨rfl, c0, l0, m0, t0, p0⟩ (fun σ H' h => ?_) fun σ H' Q Q' hq h => ?_
  · obtain ⟨rfl, cells, l, mi, t, p⟩ := h
    -- what is behind the loop
    have after : tSeq (tAsg (tKey "left") (gName 2)) (tSeq (tIfS (tOr (tTest (tOp rLtI (tVar 1) (tI 2))) (tTest (tOp rGtI (tVar 2) (tI 1))))
          (tSeq (sDPut (tVar 0) (tC (.str "left")) (tOp rDivI (tVar 2) tMany)) (tRet (tOp rModI (tInt (tVar 2)) tMany))) tNext)
        (tSeq (sDPut (tVar 0) (tC (.str "turn")) (tOp rAddI (tKey "turn") (tI 1)))
          (tSeq (tAsg (tOp rModI (tInt (tOp rAddI (tKey "mixed") (tOp rMulI (tKey "turn") (tI 104729)))) (tI 998244353)) (gName 3))
            (tSeq (tAsg (tOp rModI (tInt (tOp rAddI (tOp rMulI (tVar 3) (tVar 3)) (tOp rMulI (tKey "turn") (tI 17)))) (tI 2147483647)) (gName 3))
              (tSeq (sDPut (tVar 0) (tC (.str "mixed")) (tVar 3))
                (tRet (tOp rModI (tInt (tOp rDivI (tVar 3) (tI 16))) (tVar 1)))))))) D [some (.ref a), some (.int m), none, none] H' := by
      refine ⟨.ref a, rfl, a, .int l, rfl, p.lk rfl, ?_⟩
      have mx : (if m > 1 then m else 1) = max 1 m := if_max m
      have mx1 : 1 ≤ max 1 m := Int.le_max_left _ _
      have mx2 : max 1 m < 1073741824 := by rw [Int.max_def]; split <;> omega
      have take : ∀ nx, (tSeq (sDPut (tVar 0) (tC (.str "left")) (tOp rDivI (tVar 2) tMany)) (tRet (tOp rModI (tInt (tVar 2)) tMany))) { D with nx := nx } [some (.ref a), some (.int m), some (.int l), none] H' := fun nx => by
        have hd : 0 ≤ l.fdiv (max 1 m) := by rw [Int.fdiv_eq_ediv_of_nonneg _ (by omega)]; exact Int.ediv_nonneg p.l0 (by omega)
        refine ⟨.int l, rfl, .int m, rfl, 1, m, rfl, l, max 1 m, rfl, congrArg V.int mx, ⟨by omega, by omega⟩, .ref a, rfl, a, _, rfl, p.dp put_left, ?_⟩
        refine ⟨.int l, rfl, .inl ⟨l, rfl, .int m, rfl, 1, m, rfl, l, max 1 m, rfl, congrArg V.int mx, (by omega), ?_⟩⟩
        exact back (p.write hd) (fmod_range l (by omega)).1 (fmod_range l (by omega)).2
      refine ⟨.int m, rfl, m, 2, rfl, rfl, _, rfl, ?_⟩
      dsimp only
      by_cases hm2 : m < 2
      · rw [decide_eq_true hm2, if_pos rfl, if_pos rfl]
        exact take _
      · rw [decide_eq_false hm2, if_neg (by decide)]
        refine ⟨.int l, rfl, l, 1, rfl, rfl, _, rfl, ?_⟩
        dsimp only
        by_cases hl1 : 1 < l
        · rw [decide_eq_true hl1, if_pos rfl]
          exact take _
        · rw [decide_eq_false hl1, if_neg (by decide)]
          have hmm : max 1 m = m := by rw [Int.max_def]; split <;> omega
          refine ⟨.ref a, rfl, a, .int t, rfl, p.lk rfl, t, 1, rfl, rfl, .ref a, rfl, a, _, rfl, p.dp put_turn, ?_⟩
          have p1 := p.write (l := l) (m := mi) (t := t + 1) p.l0
          refine ⟨.ref a, rfl, a, .int mi, rfl, p1.lk rfl, .ref a, rfl, a, .int (t + 1), rfl, p1.lk rfl, t + 1, 104729, rfl, rfl, .inr ⟨by decide, by decide⟩, mi, _, rfl, rfl, .inl ⟨_, rfl, _, 998244353, rfl, rfl, (show (998244353 : Int) ≠ 0 by decide), ?_⟩⟩
          have r1 := fmod_range (mi + (t + 1) * 104729) (b := 998244353) (by decide)
          dsimp only [gName]
          generalize (mi + (t + 1) * 104729).fmod 998244353 = x at r1 ⊢
          refine ⟨.int x, rfl, .int x, rfl, x, x, rfl, rfl, .inl ⟨by omega, by omega⟩, .ref a, rfl, a, .int (t + 1), rfl, p1.lk rfl, t + 1, 17, rfl, rfl, .inr ⟨by decide, by decide⟩, _, _, rfl, rfl, .inl ⟨_, rfl, _, 2147483647, rfl, rfl, (show (2147483647 : Int) ≠ 0 by decide), ?_⟩⟩
          have r2 := fmod_range (x * x + (t + 1) * 17) (b := 2147483647) (by decide)
          dsimp only [gName]
          generalize (x * x + (t + 1) * 17).fmod 2147483647 = y at r2 ⊢
          refine ⟨.int y, rfl, .ref a, rfl, a, _, rfl, p1.dp put_mixed, ?_⟩
          have p2 := p1.write (l := l) (m := y) (t := t + 1) p.l0
          refine ⟨.int y, rfl, y, 16, rfl, rfl, ⟨by decide, by decide⟩, .inl ⟨_, rfl, .int m, rfl, _, m, rfl, rfl, (show m ≠ 0 by omega), ?_⟩⟩
          have r3 := fmod_range (y.fdiv 16) (b := m) (by omega)
          exact back p2 r3.1 (by rw [hmm]; exact r3.2)
    refine ⟨.int m, rfl, m, 1, rfl, rfl, _, rfl, ?_⟩
    dsimp only
    by_cases h1 : 1 < m
    · rw [decide_eq_true h1, if_pos rfl]
      refine ⟨.ref a, rfl, a, .int l, rfl, p.lk rfl, l, 2, rfl, rfl, _, rfl, ?_⟩
      dsimp only
      by_cases h2 : l < 2
      · rw [decide_eq_true h2, if_pos rfl]
        refine ⟨.ref a, rfl, a, .ref lc, rfl, p.lk rfl, .ref lc, cells.length, rfl, .inl ⟨_, SqL.of p.c, by rw [List.length_map]⟩, (cells.length : Int), 0, rfl, rfl, _, rfl, ?_⟩
        dsimp only
        by_cases h3 : 0 < (cells.length : Int)
        · rw [decide_eq_true h3, if_pos rfl]
          obtain ⟨cs, x, rfl⟩ : ∃ cs x, cells = cs ++ [x] := ⟨cells.dropLast, cells.getLast (fun z => by rw [z] at h3; exact absurd h3 (by decide)), (List.dropLast_concat_getLast _).symm⟩
          have e : ((cs ++ [x]).map V.int).dropLast = cs.map V.int := by rw [List.map_append, List.map_singleton, List.dropLast_concat]
          have p2 := p.popd.write (l := x) (m := mi) (t := t) (p.cp x (by simp))
          refine ⟨.ref a, rfl, a, .ref lc, rfl, p.lk rfl, .inl ⟨rfl, _, SqL.of p.c⟩, lc, _, .int x, rfl, rfl, p.c, ?_, .ref a, rfl, a, upd (upd H' lc (.lst (cs.map V.int))) a (.dK (srcFs lc x mi t)), rfl, ?_, ⟨rfl, cs, x, mi, t, p2⟩, ?_⟩
          · rw [List.map_append, List.map_singleton, List.length_append]
            simp
          · rw [e]
            exact p.popd.dp put_left
          · rw [p2.c, p.c]
            simp
        · rw [decide_eq_false h3, if_neg (by decide)]
          exact after
      · rw [decide_eq_false h2, if_neg (by decide), if_neg (by decide)]
        exact after
    · rw [decide_eq_false h1, if_neg (by decide), if_neg (by decide)]
      exact after
  · obtain ⟨x, h1, i, j, h2, h3, kk, h4, h5⟩ := h
    refine ⟨x, h1, i, j, h2, h3, kk, h4, ?_⟩
    by_cases hk : kk = true
    · rw [if_pos hk] at h5 ⊢
      obtain ⟨x, h1, y, v, hy, g, i, j, h2, h3, kk, h4, h5⟩ := h5
      refine ⟨x, h1, y, v, hy, g, i, j, h2, h3, kk, h4, ?_⟩
      by_cases hk : kk = true
      · rw [if_pos hk] at h5 ⊢
        obtain ⟨x, h1, y, v, hy, g, z, n, e, lv, i, j, h2, h3, kk, h4, h5⟩ := h5
        exact ⟨x, h1, y, v, hy, g, z, n, e, lv, i, j, h2, h3, kk, h4, hq _ _ h5⟩
      · rw [if_neg hk] at h5 ⊢
        exact hq _ _ h5
    · rw [if_neg hk] at h5 ⊢
      exact hq _ _ h5
end
end DL

set_option Elab.async false
set_option linter.all false
set_option maxRecDepth 100000
set_option maxHeartbeats 4000000
namespace DL
open PySem PySem.Spec PyProof.Rows L2
section
variable {P : Program} {w : World} {K : PySem.W.Frag} {mg : Str → Option Value} {base : Heap} {k : Nat} {x : Str} {st : Stmt} {N ps : List Str} {g : Spec} {t : TSd} {sp : Sp}
theorem Own.mk' (A : Raw K mg x st ps) (F : ∀ f fd, Fun K x x st f fd → FnD P w K mg base CX0 k f fd ps sp) : Own P w K mg base k x ps sp := by
  obtain ⟨f, fd, F0, m, b⟩ := A.ex
  exact ⟨f, fd, F f fd F0, m, F0.kp, b⟩
theorem own_d (A : Raw K mg x st ps) (S : FnScope N ps (defScope st)) (len : ∀ ds R, g ds R → ds.length = ps.length)
    (hb : ∀ (f : Addr) (cdv : Value) (A : Around) (outer : List PySem.Env) (s : Shared) (H : Hp) (E : XK) (G : Gd), Room k (A.deeper (envOfC x (defScope st) s.heap.objs.size f cdv)) → Bare A → DSs (cxOf CX0 P w K mg base N x (defScope st) f cdv A outer s H E).nox G (defBody st) t)
    (sem : ∀ ds R, g ds R → t { nx := fun _ => R .none false, rt := R } (startD N ds)) : Own P w K mg base (k + 1) x ps (spD K g) :=
  .mk' A fun f fd F => fn_d F S len (fun cdv A outer s H E G hr hG => hb f cdv A outer s H E G hr hG) sem
theorem own_s (A : Raw K mg x st ps) (S : FnScope N ps (defScope st)) (len : ∀ ds R, g ds R → ds.length + 1 = ps.length)
    (hb : ∀ (f : Addr) (cdv : Value) (A : Around) (outer : List PySem.Env) (s : Shared) (H : Hp) (E : XK) (G : Gd), Room k (A.deeper (envOfC x (defScope st) s.heap.objs.size f cdv)) → Bare A → DSs (cxOf CX0 P w K mg base N x (defScope st) f cdv A outer s H E).nox G (defBody st) t)
    (sem : ∀ ds R, g ds R → t { nx := fun _ => R .none false, rt := R } (startS N ds)) : Own P w K mg base (k + 1) x ps (spS K g) :=
  .mk' A fun f fd F => fn_s F S len (fun cdv A outer s H E G hr hG => hb f cdv A outer s H E G hr hG) sem
/-- _law_source and _law_pick by their texts -/
theorem own_source (A : Raw K mg "_law_source" st ["script"]) (S : FnScope ["script", "mixed", "cell"] ["script"] (defScope st))
    (hb : ∀ (f : Addr) (cdv : Value) (A : Around) (outer : List PySem.Env) (s : Shared) (H : Hp) (E : XK), Room 0 (A.deeper (envOfC "_law_source" (defScope st) s.heap.objs.size f cdv)) → Bare A → PSs (cxOf CX0 P w K mg base ["script", "mixed", "cell"] "_law_source" (defScope st) f cdv A outer s H E).nox (defBody st) (tSource K)) :
    Own P w K mg base 1 "_law_source" ["script"] (spSrc K) :=
  .mk' A fun f fd F => fn_ofD F S (fun vs H Q E h => by obtain ⟨a, ns, rfl, _⟩ := h; rfl) fun cdv A outer s H vs Q E hr hG h => ⟨_, (hb f cdv A outer s H E hr hG).nox, source_run h⟩
theorem own_pick (A : Raw K mg "_law_pick" st ["source", "many"]) (S : FnScope ["source", "many", "left", "mixed"] ["source", "many"] (defScope st))
    (hb : ∀ (f : Addr) (cdv : Value) (A : Around) (outer : List PySem.Env) (s : Shared) (H : Hp) (E : XK), Room 0 (A.deeper (envOfC "_law_pick" (defScope st) s.heap.objs.size f cdv)) → Bare A → PSs (cxOf CX0 P w K mg base ["source", "many", "left", "mixed"] "_law_pick" (defScope st) f cdv A outer s H E).nox (defBody st) (tPick K)) :
    Own P w K mg base 1 "_law_pick" ["source", "many"] (spS K g_law_pick) :=
  .mk' A fun f fd F => fn_ofD F S (fun vs H Q E h => by
    obtain ⟨a, lc, rest, hd, ds, R, rfl, en, z, ⟨m, rfl, _⟩, _⟩ := h
    cases z with | cons z1 z2 => cases z2; rfl) fun cdv A outer s H vs Q E hr hG h => ⟨_, (hb f cdv A outer s H E hr hG).nox, pick_run h⟩
theorem raw_mk {h : Heap} (KX : K.In h) (G : h.Ns mainGlobals mg) {f : Addr} {oc : Value} {od an : Option Addr} {osl : Array (Option Value)} {kV doc pm cdv ct : Value}
    (a : PySem.W.nsIn K mainGlobals x = some (some (.ref f))) (l : K.lookup f = some ⟨oc, od, .func (PySem.W.fnOf x x (defArgs st) (defBody st) (defScope st) .none kV doc pm an cdv ct), osl⟩) (c : PySem.W.codeIn K cdv x = true) (kk : PySem.W.keepIn K (.ref f) = true)
    (hb : ∀ fd, Fun K x x st f fd → Binds K fd ps []) : Raw K mg x st ps :=
  ⟨f, _, fun_mk l c kk, PySem.W.mg_of KX G a, hb _ (fun_mk l c kk)⟩
end
end DL

set_option Elab.async false
set_option linter.all false
set_option maxRecDepth 100000
set_option maxHeartbeats 4000000
namespace DL
open PySem PySem.Spec PyProof.Rows L2
/-! ### enumerate of a tuple -/
theorem meets_enum1 {v : Value} {o : Obj} {H : Heap → Prop} (B : Begins v o H) :
    Meets (Builtin.«enumerate.__new__» ⟨[.type "enumerate", v], []⟩) (fun _ R s => H s.heap ∧
      R (.ok (.ret (.ref (s.heap.push o).objs.size))) { s with heap := (s.heap.push o).push { cls := .type "enumerate", data := .fields #[.none, .bool false, .ref s.heap.objs.size, rawInt 0, .none, .none] } }) :=
  .of_wp fun prog w A R s h => by
    obtain ⟨hp, g, d, tk, os⟩ := s; obtain ⟨h1, h⟩ := h
    have hsub := sub_enumerate
    have q1 : ∀ {A' : Around} {E : Value → Shared → Prop} {Q : Value → Shared → Prop}, Q (.ref hp.objs.size) ⟨hp.push o, g, d, tk, os⟩ → wpAny (model prog w) A' (pyIter v) Q E ⟨hp, g, d, tk, os⟩ :=
      fun q => B.iter prog w _ _ ⟨hp, g, d, tk, os⟩ _ h1 q
    wp_walk using q1
    refine wpAny_stack_any fun st => wpAny_pure ?_
    split
    · rename_i c _ _ _ _ _
      cases (c == Value.type "enumerate")
      · wp_walk using q1
        exact ⟨_, rfl, h⟩
      · wp_walk using q1
        exact ⟨_, rfl, h⟩
    · wp_walk using q1
      exact ⟨_, rfl, h⟩
theorem call_enum1 {prog : Program} {w : World} {A : Around} {E : Value → Shared → Prop} {s : Shared} {v : Value} {o : Obj} {H : Heap → Prop} {Q : Value → Shared → Prop} (B : Begins v o H) (h1 : H s.heap)
    (h : ∀ h', IsEnum h' (s.heap.objs.size + 1) s.heap.objs.size 0 .none → h'.get? s.heap.objs.size = some o → h'.objs.size = s.heap.objs.size + 2 →
      (∀ b o, s.heap.get? b = some o → h'.get? b = some o) → Q (.ref (s.heap.objs.size + 1)) { s with heap := h' }) :
    wpAny (model prog w) A (call (.type "enumerate") [v]) Q E s := by
  refine callType_new F.called_enumerate (by decide) (F.typeCall_enumerate_1 _) (F.newCall_enumerate_1 _) (fun obj => F.args_object_init_2 obj _) F.entry_enumerate_new (meets_enum1 B) ⟨h1, ?_⟩
  have hz : (s.heap.push o).objs.size = s.heap.objs.size + 1 := Heap.size_push ..
  show _ ∧ _
  rw [hz]
  have he : IsEnum ((s.heap.push o).push { cls := .type "enumerate", data := .fields #[.none, .bool false, .ref s.heap.objs.size, rawInt 0, .none, .none] }) (s.heap.objs.size + 1) s.heap.objs.size 0 .none := by
    have := Heap.get?_push_size (s.heap.push o) (o := { cls := .type "enumerate", data := .fields #[.none, .bool false, .ref s.heap.objs.size, rawInt 0, .none, .none] }) rfl
    rw [hz] at this; exact this
  refine ⟨⟨_, he, rfl⟩, h _ he (Heap.get?_push_of_some _ (Heap.get?_push_size _ B.free)) (by rw [Heap.size_push, hz]) fun b o x => Heap.get?_push_of_some _ (Heap.get?_push_of_some _ x)⟩
def IteT (K : PySem.W.Frag) (a : Addr) : It :=
  ⟨fun i H => ∃ (xs : List V) (x : V), SqT K H a xs ∧ xs[i]? = some x, fun i H v H' => ∃ T x, v = .ref T ∧ H T = none ∧ H' = upd H T (.tup [.int (i : Nat), x]) ∧ ∀ xs, SqT K H a xs → xs[i]? = some x, fun i H => ∃ xs : List V, SqT K H a xs ∧ xs.length ≤ i⟩
theorem turn_enumT {P : Program} {w : World} {K : PySem.W.Frag} {elts : List Expr} {kk : Nat} {tpos : Pos} (a e it : Addr) :
    Turn P w K (.Tuple elts kk tpos) (IteT K a) [e, it] e (fun i h => (∃ old, IsEnum h e it ((i : Nat) : Int) old) ∧ h.IsTupleIter it a i ∧ e ≠ it) where
  mem := by simp
  obj := fun i h st b hb => by
    obtain ⟨⟨old, he⟩, ⟨o, ho, hc, hd⟩, _⟩ := st
    have e' : b = e ∨ b = it := by simpa using hb
    rcases e' with z | z
    · rw [z]; exact ⟨_, he, fun v q => nomatch q⟩
    · rw [z]; exact ⟨o, ho, fun v q => by rw [hd] at q; cases q⟩
  keep := fun i h h' st k => let ⟨⟨old, he⟩, hi, hne⟩ := st; ⟨⟨old, k e (by simp) _ he⟩, hi.at fun o q => k it (by simp) o q, hne⟩
  item := by
    intro X hP hw hK hc i pins s σ H E I hf st hg
    subst hP hw hK
    obtain ⟨⟨old, he⟩, hit, hne⟩ := st
    obtain ⟨xs, x, hq, hx⟩ := hg
    obtain ⟨its, rv, p, hz⟩ := I.tuple hq
    obtain ⟨u, hu, ru⟩ := rv.get hx
    have hel : e < s.heap.objs.size := Heap.lt_size he
    have hil : it < s.heap.objs.size := by obtain ⟨_, q, _⟩ := hit; exact Heap.lt_size q
    have na : a ≠ it := fun z => by
      obtain ⟨o1, q1, q2, _⟩ := p
      obtain ⟨o2, q3, q4, _⟩ := hit
      rw [z, q3] at q1; cases q1; rw [q4] at q2; injection q2 with q2; exact absurd q2 (by decide)
    have ea : e ≠ a := fun z => by
      obtain ⟨o1, q1, q2, _⟩ := p
      have he : s.heap.get? e = some _ := he
      rw [z, q1] at he; cases he; injection q2 with q2; exact absurd q2 (by decide)
    have hlt : i < its.toArray.size := by
      have := (List.getElem?_eq_some_iff.mp hu).1
      simpa using this
    refine wpAny_pyNext_enum_itemD (Draws.tuple (A := X.A.in1) (I.ok.hd hc) it a na its.toArray) he ⟨hit, p⟩ hlt hne (by simpa using ⟨hne, ea⟩) fun x' h' tk hP ho hit' hT hsz hk => ?_
    have ex : x' = u := by
      have hP : its.toArray[i]? = some x' := hP
      rw [List.getElem?_toArray, hu] at hP
      exact (Option.some.inj hP).symm
    subst ex
    refine ⟨_, rfl, wpAny_letOwnedTupleGo_enum (s := { s with heap := h', toks := tk + 1 }) ho fun h'' he' sb => ?_⟩
    have hT2 : h''.get? s.heap.objs.size = some { cls := .type "tuple", data := .seq #[.int i tk, x'] } := (sb.2 _ (Nat.ne_of_gt hel)).trans hT
    have new : ObjOk X.prog X.w (upd H s.heap.objs.size (.tup [.int (i : Nat), x])) h'' s.heap.objs.size (.tup [.int (i : Nat), x]) :=
      ⟨by show 2 ≤ sizeLine; decide, [.int i tk, x'], .cons ⟨_, rfl⟩ (.cons ru .nil), ⟨_, hT2, rfl, _, rfl⟩⟩
    have I1 : Inv X pins σ (upd H s.heap.objs.size (.tup [.int (i : Nat), x])) { s with heap := h'', toks := tk + 1 } :=
      I.turnedNew (ch := [e, it]) (fun b ob hb q => (sb.2 b (fun z => hb (by simp [z]))).trans (hk b ob (fun z => hb (by simp [z])) (fun z => hb (by simp [z])) q)) hf (Nat.le_refl _) new
    refine ⟨.ref s.heap.objs.size, _, I1, rfl, ⟨_, x, rfl, I.hok.fresh (Nat.le_refl _), rfl, fun ys hy => by rw [I.tuple_inj hy hq]; exact hx⟩, ⟨⟨x', ?_⟩, hit'.1.at fun o q => (sb.2 it (Ne.symm hne)).trans q, hne⟩, fun b hb => ?_⟩
    · have e1 : ((i + 1 : Nat) : Int) = (i : Int) + 1 := by omega
      rw [e1]; exact he'
    · have hb' : b < s.heap.objs.size := by
        have e' : b = e ∨ b = it := by simpa using hb
        rcases e' with z | z
        · rw [z]; exact hel
        · rw [z]; exact hil
      rw [upd_ne (Nat.ne_of_lt hb')]
      exact (hf b hb).1
  done := by
    intro X hP hw hK hc i pins s σ H E I hf st hg
    subst hP hw hK
    obtain ⟨⟨old, he⟩, hit, hne⟩ := st
    obtain ⟨xs, hq, hx⟩ := hg
    obtain ⟨its, rv, p, hz⟩ := I.tuple hq
    obtain ⟨f0, f1, f2, f3, f4, f5⟩ := hf it (by simp)
    have hl := rv.length
    have na : a ≠ it := fun z => by
      obtain ⟨o1, q1, q2, _⟩ := p
      obtain ⟨o2, q3, q4, _⟩ := hit
      rw [z, q3] at q1; cases q1; rw [q4] at q2; injection q2 with q2; exact absurd q2 (by decide)
    have hT : s.TypeIs (.ref e) "enumerate" := ⟨_, he, rfl⟩
    unfold pyNext
    refine wpAny_bind (wpAny_attempt (wpAny_callSpecial?_slot (name := Str.ofString "__next__") hT F.slot_enumerate_next
      (wpAny_call_entry F.slot_enumerate_next hT F.entry_enumerate_next ?_ (F.args_enumerate_next_1 _))))
    show wpAny _ _ (field (.ref e) 2 >>= _) _ _ _
    refine wpAny_bind (wpAny_field he rfl (x := .ref it) rfl ?_)
    refine wpAny_bind (wpAny_nextOf_tuple_end (A := X.A.in1) (I.ok.hd hc) hit p (by simp; omega) fun h' x he' hx' => ?_)
    obtain ⟨o, ho, hc'⟩ := hx'
    refine wpAny_bind (wpAny_isInstance (T := "StopIteration") (b := true) ⟨o, ho, hc'⟩ isSubtype_stop ?_)
    exact wpAny_pure ⟨rfl, I.turned (t' := s.toks) (fun b o hb q => he' b o hb q) f0 f1 f3 f4 f5⟩
  self := fun A i s Q E st h => let ⟨⟨_, he⟩, _⟩ := st; wpAny_pyIter_enum he h
def iEnumA (K : PySem.W.Frag) (ta : TA) : TI := fun σ H R => ta σ H fun vs H1 => ∃ a xs, vs = [.ref a] ∧ ((SqL K H1 a xs ∧ R (Ite K a) H1) ∨ (SqT K H1 a xs ∧ R (IteT K a) H1))
theorem pi_enumA {X : Cx} {e : Expr} {ta : TA} {p pos tpos : Pos} {elts : List Expr} {kk : Nat} (hg : Gl X "enumerate") (hm : X.mg "enumerate" = none) (ha : PA X [e] ta) (hs : starEach [e] X.env = [(false, eval e X.env)] := by rfl) :
    PI X (.Tuple elts kk tpos) (.Call (.Name "enumerate" p) [e] [] pos) (iEnumA X.K ta) := by
  refine ⟨fun pins s σ H R I h => ?_⟩
  refine Call_ (ld_blt I hg hm boot_enumerate (PyProof.Rows.callWith_type1 (thn (ha.run pos pins s σ H _ I h) fun us s1 ⟨vs, H1, I1, r1, q1⟩ => ?_) hs rfl))
  obtain ⟨a, xs, ex, q⟩ := q1
  subst ex
  cases r1 with
  | cons r rr =>
    cases rr
    cases r
    have fp : ∀ b ∈ [s1.heap.objs.size + 1, s1.heap.objs.size], FpOk X pins H1 b := fun b hb => by
      have e' : b = s1.heap.objs.size + 1 ∨ b = s1.heap.objs.size := by simpa using hb
      have hle : s1.heap.objs.size ≤ b := by
        rcases e' with z | z
        · rw [z]; exact Nat.le_add_right _ _
        · rw [z]; exact Nat.le_refl _
      exact I1.fpOk hle (I1.hok.fresh hle)
    rcases q with ⟨hq, q⟩ | ⟨hq, q⟩
    · obtain ⟨its, rv, p', hz⟩ := I1.list hq
      refine call_enumerate_list p'.isList fun h' he hit hsz hk => wpAny_pyIter_enum he ?_
      have I2 : Inv X pins σ H1 { s1 with heap := h' } := I1.kept (t' := s1.toks) hk
      exact ⟨s1.heap.objs.size + 1, [s1.heap.objs.size + 1, s1.heap.objs.size], _, _, H1, rfl, I2, turn_enum a (s1.heap.objs.size + 1) s1.heap.objs.size, ⟨⟨.none, he⟩, hit, Nat.succ_ne_self _⟩, fp, q⟩
    · obtain ⟨its, rv, p', hz⟩ := I1.tuple hq
      refine call_enum1 (begins_tuple a its.toArray) p' fun h' he hit hsz hk => wpAny_pyIter_enum he ?_
      have I2 : Inv X pins σ H1 { s1 with heap := h' } := I1.kept (t' := s1.toks) hk
      exact ⟨s1.heap.objs.size + 1, [s1.heap.objs.size + 1, s1.heap.objs.size], _, _, H1, rfl, I2, turn_enumT a (s1.heap.objs.size + 1) s1.heap.objs.size, ⟨⟨.none, he⟩, ⟨_, hit, rfl, rfl⟩, Nat.succ_ne_self _⟩, fp, q⟩
end DL

set_option Elab.async false
set_option linter.all false
set_option maxRecDepth 100000
set_option maxHeartbeats 4000000
namespace DL
open PySem PySem.Spec PyProof.Rows L2
theorem meets_extendT (l : Addr) (items : Array Value) (n : Nat) (b : Addr) (items2 : Array Value) (n2 : Nat) (dct : Option Addr) (sl : Array (Option Value)) (hs0 : ¬(!items.isEmpty && Builtin.List.listTooLong (items.size + items2.size)) = true) (hs1 : items.size ≤ sizeLine) (hs2 : items.size + items2.size ≤ sizeLine + 1) :
    Meets (Builtin.«list.extend» ⟨[.ref l, .ref b], []⟩) (fun _ R s => s.heap.get? l = some { cls := .type "list", dict := none, data := .seq items n, slots := #[] } ∧ s.heap.get? b = some { cls := .type "tuple", dict := dct, data := .seq items2 n2, slots := sl } ∧ R (.ok (.ret Value.none)) { s with heap := s.heap.update l (Obj.mapSeq fun x => x ++ items2), toks := s.toks }) :=
  .of_wp fun prog w A R s h => by
    obtain ⟨hp, g, d, tk, os⟩ := s; obtain ⟨hl, hb, h⟩ := h; have f1 := AutoSeq1.idx_int; have f2 := AutoSeq1.sub_tuple_tuple; have f3 := AutoSeq1.sub_list_list; have f4 := AutoSeq1.sub_tuple_list; have f5 := AutoSeq1.sub_list_tuple;
    have hz' : (items ++ items2).size ≤ sizeLine + 1 := by rw [Array.size_append]; exact hs2
    wp_walk using (wpAny_updateSeq hl rfl (hz := hs1) (_hz' := hz')), AutoSeq1.wpAny_loadPart' hl, AutoSeq1.wpAny_loadPart' hb; exact ⟨_, rfl, h⟩
/-- xs.extend(list or tuple) -/
def rExtendA (K : PySem.W.Frag) : V → List V → Hp → VK → Prop := fun x vs H Q => ∃ l b xs zs, x = .ref l ∧ vs = [.ref b] ∧ H l = some (.lst xs) ∧ (H b = some (.lst zs) ∨ SqT K H b zs) ∧ xs.length + zs.length ≤ sizeLine ∧ Q .non (upd H l (.lst (xs ++ zs)))
theorem mt_extendA {X : Cx} : MtM X "list.extend" (rExtendA X.K) := by
  intro pins s σ H x vs v us Q I rx rv h
  obtain ⟨l, b, xs, zs, rfl, rfl, hH, hB, hz, q⟩ := h
  rcases hB with hB | hB
  · exact mt_extend pins s σ H _ _ v us Q I rx rv ⟨l, b, xs, zs, rfl, rfl, hH, hB, hz, q⟩
  · cases rx
    obtain ⟨u, rfl, ru⟩ := rv.one
    cases ru
    obtain ⟨z, its, n, r, hl, e⟩ := I.lstM hH
    obtain ⟨its2, r2, ⟨⟨oc, od, odt, osl⟩, e2, e3, n2, e4⟩, hl2⟩ := I.tuple hB
    cases e3; cases e4
    have l1 := r.length
    have l2 := r2.length
    have hsz : its.toArray.size + its2.toArray.size ≤ sizeLine := by rw [List.size_toArray, List.size_toArray]; omega
    have hlong : ¬ (!its.toArray.isEmpty && Builtin.List.listTooLong (its.toArray.size + its2.toArray.size)) = true := by
      rw [notLongL hsz, Bool.and_false]
      exact Bool.false_ne_true
    refine call_meets F.slot_list_extend ⟨_, e, rfl⟩ F.entry_list_extend (F.args_list_extend_2 _ _)
      (meets_extendT l its.toArray n b its2.toArray n2 od osl hlong (by rw [List.size_toArray]; omega) (by omega)) ⟨e, e2, ?_⟩
    refine ⟨.non, _, I.lset (its' := its ++ its2) hH e (by simp) (r.append r2) ?_, rfl, q⟩
    rw [List.length_append]
    omega
section
variable {X : Cx} {G : Gd} {pos : Pos} {e a b c : Expr} {t ta tb tc : TEd}
def tdExtendA (i : Nat) (t : TEd) : TSd := fun E δ => match δ[i]? with
  | some (.own p xs) => t δ fun d a _ => match d with
    | .list ys => xs.length + ys.length ≤ sizeLine ∧ (a = true ∨ lfAll ys = true) ∧ E.nx (δ.set i (.own p (xs ++ ys)))
    | .tuple ys => xs.length + ys.length ≤ sizeLine ∧ (a = true ∨ lfAll ys = true) ∧ E.nx (δ.set i (.own p (xs ++ ys)))
    | _ => False
  | _ => False
theorem ds_extendA {i : Nat} (h : PE X e (tBM X.K "list" (rExtendA X.K) (tVar i) (tCons (lE X.K G t) tNil))) (hs : swapsWith e none pos.line X.env = pure false := by rfl) : DS X G (.Expr e pos) (tdExtendA i t) := by
  refine ⟨PS.imp (ps_expr h hs) fun D' σ H h => ?_⟩
  obtain ⟨δ, E, S, h, l⟩ := h
  unfold tdExtendA at h
  split at h
  · rename_i p xs hi
    obtain ⟨e1, e2, e3, vs, e4, e5⟩ := S.at_ i _ hi
    refine ⟨_, e1, .inl ⟨rfl, _, SqL.of e4⟩, δ, _, S, h, fun v H1 d a f q1 d1 r1 => ?_⟩
    have S1 := S.quiet q1
    obtain ⟨_, _, _, vs1, e4', e5'⟩ := S1.at_ i _ hi
    have fin : ∀ {zs : List V} {ys : List D}, DqAll X.K (hid (hP G (addrs δ) a) H1) zs ys → (a = true ∨ lfAll ys = true) → DqAll X.K (hid (G.hd ++ addrs δ) H1) zs ys := fun {zs ys} hd r2 => by
      rcases r2 with r2 | r2
      · subst r2; exact hd
      · exact (hd.mono hid_same).lf (tupK_hid S1.noP) r2
    cases d with
    | list ys =>
      obtain ⟨r1, r2, r3⟩ := r1
      cases d1.z with
      | @lst b zs _ hb hd =>
      exact ⟨p, b, vs1, zs, rfl, rfl, e4', .inl (hid_some.mp hb).2, by rw [e5'.length, hd.length]; exact r1, l.nx _ _ _ (S1.write hi (e5'.append (fin hd r2))) r3⟩
    | tuple ys =>
      obtain ⟨r1, r2, r3⟩ := r1
      cases d1.z with
      | @tup b zs _ hb hd =>
      exact ⟨p, b, vs1, zs, rfl, rfl, e4', .inr (Same.sqT hid_same hb), by rw [e5'.length, hd.length]; exact r1, l.nx _ _ _ (S1.write hi (e5'.append (fin hd r2))) r3⟩
    | _ => exact r1.elim
  · exact h.elim
/-! ### stars in displays -/
def tdStar (t : TEd) (tr : TAd) : TAd := fun δ R => t δ fun d a _ => match d with
  | .tuple xs => tr δ fun ys b => R (xs ++ ys) (a && b)
  | .list xs => tr δ fun ys b => R (xs ++ ys) (a && b)
  | _ => False
theorem da_star {es : List Expr} {tr : TAd} {p : Pos} (ha : DE X G e ta) (hr : DA X G es tr) (hs : starEach (.Starred e p :: es) X.env = (true, eval e X.env) :: starEach es X.env := by rfl) : DA X G (.Starred e p :: es) (tdStar ta tr) := by
  refine ⟨PA.imp (StX.pa_star ha.pe hr.pa hs) fun σ H Q h => ?_⟩
  obtain ⟨δ, R, S, h, k⟩ := h
  refine ⟨δ, _, S, h, fun v H1 d a1 f q1 d1 r1 => ?_⟩
  have e1 := (S.quiet q1).env
  have fin : ∀ {vs : List V} {xs : List D}, DqAll X.K (hid (hP G (addrs δ) a1) H1) vs xs → tr δ (fun ys b => R (xs ++ ys) (a1 && b)) → lA X.K G tr σ H1 fun ys H2 => Q (vs ++ ys) H2 := fun {vs xs} hd r1 => by
    refine ⟨δ, _, S.quiet q1, r1, fun ws H2 ds a2 q2 d2 r2 => ?_⟩
    exact k _ H2 _ (a1 && a2) (q1.trans q2) ⟨((hd.mono (hP_step e1 q2)).mono (hP_and1 a1 a2)).append (d2.z.mono (hP_and2 a1 a2))⟩ r2
  cases d with
  | tuple xs =>
    cases d1.z with
    | @tup p vs _ hs hd => exact ⟨p, vs, rfl, .inl (Same.sqT hid_same hs), fin hd r1⟩
  | list xs =>
    cases d1.z with
    | @lst p vs _ hs hd => exact ⟨p, vs, rfl, .inr (SqL.of (hid_some.mp hs).2), fin hd r1⟩
  | _ => exact r1.elim
/-! ### in, not in -/
def flatD : D → Bool
  | .none | .bool _ | .int _ | .str _ => true
  | _ => false
theorem flat_of {K : PySem.W.Frag} {H : Hp} {v : V} {d : D} (h : Dq K H v d) (f : flatD d = true) : flatV v = true := by
  cases h <;> first | rfl | cases f
theorem flat_all {K : PySem.W.Frag} {H : Hp} : ∀ {vs : List V} {ds : List D}, DqAll K H vs ds → ds.all flatD = true → vs.all flatV = true
  | _, _, .nil, _ => rfl
  | _, _, .cons h t, f => by
    rw [List.all_cons, Bool.and_eq_true] at f ⊢
    exact ⟨flat_of h f.1, flat_all t f.2⟩
theorem eqV_eqv {K : PySem.W.Frag} {H : Hp} {v w : V} {d e : D} (h : Dq K H v d) (g : Dq K H w e) (f : flatD d = true) (f2 : flatD e = true) : eqV v w = PyData.eqv d e := by
  cases h <;> first | (cases f; done) | skip
  all_goals cases g <;> first | (cases f2; done) | skip
  all_goals first | rfl | (unfold eqV PyData.eqv; rfl)
theorem inV_any {K : PySem.W.Frag} {H : Hp} {v : V} {d : D} (h : Dq K H v d) (f : flatD d = true) : ∀ {vs : List V} {ds : List D}, DqAll K H vs ds → ds.all flatD = true → inV v vs = ds.any fun z => PyData.eqv z d
  | _, _, .nil, _ => rfl
  | _, _, .cons g t, fs => by
    rw [List.all_cons, Bool.and_eq_true] at fs
    unfold inV
    rw [List.any_cons, List.any_cons, eqV_eqv g h fs.1 f]
    have := inV_any h f t fs.2
    unfold inV at this
    rw [this]
theorem op_inM (hu : X.A.units + 65 < cLine) : OpR X (compareOp .In) (fun x y H Q => ∃ d ds, Dp X.K H x d ∧ Dp X.K H y (.list ds) ∧ d.canLay0 = true ∧ (PyData.list ds).canLay0 = true ∧ d.depth ≤ 64 ∧ Q (.bl (ds.any fun z => PyData.eqv z d)) H) := by
  intro pins s σ H x y v u Q I rx ry h
  obtain ⟨d, ds, hd, he, sd, se, hm, q⟩ := h
  obtain ⟨as, r1⟩ := Dp.reads I d x v hd rx
  obtain ⟨bs, r2⟩ := Dp.reads I (.list ds) y u he ry
  exact SeqAt.in_list_reads r2 r1 (by simpa [PyData.canLay0] using se) sd (by have := Nat.min_le_right (PyData.depthAll ds) d.depth; omega) ⟨.bl _, H, I, rfl, q⟩
theorem op_notInM (hu : X.A.units + 65 < cLine) : OpR X (compareOp .NotIn) (fun x y H Q => ∃ d ds, Dp X.K H x d ∧ Dp X.K H y (.list ds) ∧ d.canLay0 = true ∧ (PyData.list ds).canLay0 = true ∧ d.depth ≤ 64 ∧ Q (.bl (!ds.any fun z => PyData.eqv z d)) H) := by
  intro pins s σ H x y v u Q I rx ry h
  obtain ⟨d, ds, hd, he, sd, se, hm, q⟩ := h
  obtain ⟨as, r1⟩ := Dp.reads I d x v hd rx
  obtain ⟨bs, r2⟩ := Dp.reads I (.list ds) y u he ry
  exact SeqAt.notIn_list_reads r2 r1 (by simpa [PyData.canLay0] using se) sd (by have := Nat.min_le_right (PyData.depthAll ds) d.depth; omega) ⟨.bl _, H, I, rfl, q⟩
theorem in_of {A : Around} {k : Nat} (h : Room k A) : A.units + 65 < cLine := by have := h.un; omega
def inD (neg : Bool) : TBd := fun x _ y _ R => match y with
  | .tuple ys => (flatD x = true ∧ ys.all flatD = true) ∧ R (.bool (neg ^^ ys.any fun z => PyData.eqv z x)) true false
  | .list ys => ((flatD x = true ∧ ys.all flatD = true) ∨ x.depth ≤ 64) ∧ R (.bool (neg ^^ ys.any fun z => PyData.eqv z x)) true false
  | .str z => ∃ c, x = .str ⟨#[c]⟩ ∧ R (.bool (neg ^^ decide (c ∈ z.cps.toList))) true false
  | _ => False
theorem od_in (hu : X.A.units + 65 < cLine) : OpR X (compareOp .In) (rD X.K G (inD false)) := by
  intro pins s σ H x y v u Q I rx ry h
  obtain ⟨δ, σ', dx, ax, dy, ay, R, S, zx, zy, h, kk⟩ := h
  have q0 := S.env.refl
  have zx' := zx.mono hid_same
  have zy' := zy.mono hid_same
  unfold inD at h
  cases dy with
  | tuple ys =>
    obtain ⟨⟨f1, f2⟩, h⟩ := h
    have z2 := zy'
    cases z2 with
    | @tup p vs _ hs hd =>
    refine op_in_seq pins s σ H _ _ v u Q I rx ry ⟨p, vs, rfl, .inr hs, flat_of zx' f1, flat_all hd f2, ?_⟩
    rw [if_neg (by decide), inV_any zx' f1 hd f2]
    exact kk _ H _ _ _ q0 (.sc S q0 fun _ => .bl _) (by rwa [Bool.false_xor] at h)
  | list ys =>
    obtain ⟨f, h⟩ := h
    rw [Bool.false_xor] at h
    rcases f with ⟨f1, f2⟩ | f1
    · have z2 := zy'
      cases z2 with
      | @lst p vs _ hs hd =>
      refine op_in_seq pins s σ H _ _ v u Q I rx ry ⟨p, vs, rfl, .inl (SqL.of hs), flat_of zx' f1, flat_all hd f2, ?_⟩
      rw [if_neg (by decide), inV_any zx' f1 hd f2]
      exact kk _ H _ _ _ q0 (.sc S q0 fun _ => .bl _) h
    · exact op_inM hu pins s σ H _ _ v u Q I rx ry ⟨dx, ys, zx'.dp, zy'.dp, zx'.clean, zy'.clean, f1, kk _ H _ _ _ q0 (.sc S q0 fun _ => .bl _) h⟩
  | str z =>
    obtain ⟨c, rfl, h⟩ := h
    rw [Bool.false_xor] at h
    cases zx'
    cases zy'
    exact op_in_sign pins s σ H _ _ v u Q I rx ry ⟨c, z, rfl, rfl, kk _ H _ _ _ q0 (.sc S q0 fun _ => .bl _) h⟩
  | _ => exact h.elim
theorem od_notin (hu : X.A.units + 65 < cLine) : OpR X (compareOp .NotIn) (rD X.K G (inD true)) := by
  intro pins s σ H x y v u Q I rx ry h
  obtain ⟨δ, σ', dx, ax, dy, ay, R, S, zx, zy, h, kk⟩ := h
  have q0 := S.env.refl
  have zx' := zx.mono hid_same
  have zy' := zy.mono hid_same
  unfold inD at h
  cases dy with
  | tuple ys =>
    obtain ⟨⟨f1, f2⟩, h⟩ := h
    have z2 := zy'
    cases z2 with
    | @tup p vs _ hs hd =>
    refine op_notIn_seq pins s σ H _ _ v u Q I rx ry ⟨p, vs, rfl, .inr hs, flat_of zx' f1, flat_all hd f2, ?_⟩
    rw [if_pos rfl, inV_any zx' f1 hd f2]
    exact kk _ H _ _ _ q0 (.sc S q0 fun _ => .bl _) (by rwa [Bool.true_xor] at h)
  | list ys =>
    obtain ⟨f, h⟩ := h
    rw [Bool.true_xor] at h
    rcases f with ⟨f1, f2⟩ | f1
    · have z2 := zy'
      cases z2 with
      | @lst p vs _ hs hd =>
      refine op_notIn_seq pins s σ H _ _ v u Q I rx ry ⟨p, vs, rfl, .inl (SqL.of hs), flat_of zx' f1, flat_all hd f2, ?_⟩
      rw [if_pos rfl, inV_any zx' f1 hd f2]
      exact kk _ H _ _ _ q0 (.sc S q0 fun _ => .bl _) h
    · exact op_notInM hu pins s σ H _ _ v u Q I rx ry ⟨dx, ys, zx'.dp, zy'.dp, zx'.clean, zy'.clean, f1, kk _ H _ _ _ q0 (.sc S q0 fun _ => .bl _) h⟩
  | str z =>
    obtain ⟨c, rfl, h⟩ := h
    rw [Bool.true_xor] at h
    cases zx'
    cases zy'
    exact op_notIn_sign pins s σ H _ _ v u Q I rx ry ⟨c, z, rfl, rfl, kk _ H _ _ _ q0 (.sc S q0 fun _ => .bl _) h⟩
  | _ => exact h.elim
/-! ### pops within -/
/-- xs.append(not xs.pop()) -/
def tdAppNotPop (i : Nat) : TSd := fun E δ => match δ[i]? with
  | some (.own p xs) => ∃ c, xs.getLast? = some (.bool c) ∧ xs.length ≤ sizeLine ∧ E.nx (δ.set i (.own p (xs.dropLast ++ [.bool (!c)])))
  | _ => False
theorem ds_appNotPop {i : Nat} (h : PE X e (tBM X.K "list" rAppend (tVar i) (tCons (tNotV (tBM0 X.K "list" rPop (tVar i))) tNil))) (hs : swapsWith e none pos.line X.env = pure false := by rfl) : DS X G (.Expr e pos) (tdAppNotPop i) := by
  refine ⟨PS.imp (ps_expr h hs) fun D' σ H h => ?_⟩
  obtain ⟨δ, E, S, h, l⟩ := h
  unfold tdAppNotPop at h
  split at h
  · rename_i p xs hi
    obtain ⟨e1, e2, e3, vs, e4, e5⟩ := S.at_ i _ hi
    obtain ⟨c, hc, hl, h⟩ := h
    obtain ⟨v, hv, dv⟩ := getLast_vs e5 hc
    cases dv
    have hne : xs ≠ [] := fun z => by rw [z] at hc; cases hc
    have hlen : 0 < xs.length := List.length_pos_iff.mpr hne
    refine ⟨_, e1, .inl ⟨rfl, _, SqL.of e4⟩, _, e1, .inl ⟨rfl, _, SqL.of e4⟩, p, vs, _, rfl, rfl, e4, hv, c, rfl, p, vs.dropLast, .bl (!c), rfl, rfl, upd_same, by rw [List.length_dropLast, e5.length]; omega, ?_⟩
    rw [upd_upd]
    exact l.nx _ _ _ (S.write hi (e5.dropLast.append (.cons (.bl _) .nil))) h
  · exact h.elim
end
end DL

set_option Elab.async false
set_option linter.all false
set_option maxRecDepth 100000
set_option maxHeartbeats 4000000
namespace DL
open PySem PySem.Spec PyProof.Rows L2
/-! ### enumerate -/
def enD : Nat → List D → List D
  | _, [] => []
  | k, x :: xs => .tuple [.int k, x] :: enD (k + 1) xs
theorem enD_len : ∀ (xs : List D) (k : Nat), (enD k xs).length = xs.length
  | [], _ => rfl
  | _ :: xs, k => by unfold enD; rw [List.length_cons, List.length_cons, enD_len xs]
theorem enD_get : ∀ {xs : List D} {k i : Nat} {d : D}, xs[i]? = some d → (enD k xs)[i]? = some (.tuple [.int ((k + i : Nat) : Int), d])
  | [], _, _, _, e => by simp at e
  | x :: xs, k, 0, d, e => by
    have : x = d := by simpa using e
    subst this
    rfl
  | x :: xs, k, i + 1, d, e => by
    unfold enD
    rw [List.getElem?_cons_succ, enD_get (k := k + 1) (i := i) (d := d) (by simpa using e)]
    rw [show k + 1 + i = k + (i + 1) by omega]
section
variable {K : PySem.W.Frag} {G : Gd} {δ : List SD} {H1 : Hp}
theorem newPair {P : List Addr} {H' : Hp} {T : Addr} {x : V} {d : D} {i : Nat} (hT : H' T = none) (tr : ∀ b ∈ P, ∃ o, H' b = some o) (hx : Dq K (hid P H') x d) : Same H' (upd H' T (.tup [.int (i : Nat), x])) ∧ Dq K (hid P (upd H' T (.tup [.int (i : Nat), x]))) (.ref T) (.tuple [.int (i : Nat), d]) := by
  have s : Same H' (upd H' T (.tup [.int (i : Nat), x])) := upd_same' hT
  have nT : T ∉ P := fun z => by obtain ⟨o, e⟩ := tr T z; rw [hT] at e; cases e
  refine ⟨s, .tup (.inl (.inl (hid_some.mpr ⟨nT, upd_same⟩))) (.cons (.int _) (.cons (hx.mono (hid_mono fun b o hn e => ⟨s b o e, hn⟩)) .nil))⟩
theorem jgood_enL {a : Addr} {vs : List V} {ds : List D} (na : a ∉ G.hd) (na2 : a ∉ addrs δ) (h : H1 a = some (.lst vs)) (hd : DqAll K (hid (G.hd ++ addrs δ) H1) vs ds) : JGood K G δ H1 (Ite K a) (enD 0 ds) := by
  intro H' P' st tr
  have h' := (st a _ na na2 h).1
  have hd' : DqAll K (hid (G.hd ++ P') H') vs ds := hd.mono (stay_hid st)
  have hl := enD_len ds 0
  refine ⟨fun i hi => ?_, fun i hi => ⟨vs, SqL.of h', by rw [hd.length]; omega⟩, fun i x H2 hi y => ?_⟩
  · obtain ⟨x, d, e1, e2, e3⟩ := seqL_get (P := G.hd ++ P') h' hd' i (by omega)
    exact ⟨vs, x, SqL.of h', e1⟩
  · obtain ⟨T, x0, rfl, hT, rfl, y⟩ := y
    obtain ⟨x', d, e1, e2, e3⟩ := seqL_get (P := G.hd ++ P') h' hd' i (by omega)
    have := y vs (SqL.of h')
    rw [e1] at this
    cases this
    obtain ⟨s, q⟩ := newPair (i := i) hT tr e3
    refine ⟨s, _, enD_get e2, ?_⟩
    rw [Nat.zero_add]; exact q
theorem jgood_enT {a : Addr} {vs : List V} {ds : List D} (hs : SqT K (hid (G.hd ++ addrs δ) H1) a vs) (hd : DqAll K (hid (G.hd ++ addrs δ) H1) vs ds) : JGood K G δ H1 (IteT K a) (enD 0 ds) := by
  intro H' P' st tr
  have sm := stay_hid (δ := δ) st
  have hs' : SqT K H' a vs := Same.sqT hid_same (Same.sqT sm hs)
  have hd' : DqAll K (hid (G.hd ++ P') H') vs ds := hd.mono sm
  have hl := enD_len ds 0
  refine ⟨fun i hi => ?_, fun i hi => ⟨vs, hs', by rw [hd.length]; omega⟩, fun i x H2 hi y => ?_⟩
  · obtain ⟨x, e1, e2⟩ := hd'.get (List.getElem?_eq_getElem (show i < ds.length by omega))
    exact ⟨vs, x, hs', e1⟩
  · obtain ⟨T, x0, rfl, hT, rfl, y⟩ := y
    obtain ⟨x', e1, e2⟩ := hd'.get (List.getElem?_eq_getElem (show i < ds.length by omega))
    have := y vs hs'
    rw [e1] at this
    cases this
    obtain ⟨s, q⟩ := newPair (i := i) hT tr e2
    refine ⟨s, _, enD_get (List.getElem?_eq_getElem (show i < ds.length by omega)), ?_⟩
    rw [Nat.zero_add]; exact q
end
section
variable {X : Cx} {G : Gd} {pos : Pos} {e a b c : Expr} {t ta tb tc : TEd}
def tdEnum (t : TEd) : TId := fun δ R => t δ fun d a f => match d with
  | .tuple xs => (a = true ∨ lfAll xs = true) ∧ R (enD 0 xs) δ true
  | .list xs => if a = true then R (enD 0 xs) δ true else if f = true then lfAll xs = true ∧ R (enD 0 xs) δ true else R (enD 0 xs) (δ.map DL.disown) false
  | _ => False
theorem di_enumerate {p tpos : Pos} {elts : List Expr} {kk : Nat} (hm : X.mg "enumerate" = none) (h : DE X G e t) (hg : Gl X "enumerate" := by rfl) (hs : starEach [e] X.env = [(false, eval e X.env)] := by rfl) (hs' : starEach [e] X.env = (false, eval e X.env) :: starEach [] X.env := by rfl) :
    DI X G (.Tuple elts kk tpos) (.Call (.Name "enumerate" p) [e] [] pos) (tdEnum t) := by
  refine ⟨PI.imp (pi_enumA hg hm (pa_cons h.pe pa_nil hs') hs) fun σ H R h => ?_⟩
  obtain ⟨δ, R', S, h, k⟩ := h
  refine ⟨δ, _, S, h, fun v H1 d a f q1 d1 r1 => ?_⟩
  have S1 := S.quiet q1
  show ∃ a' xs, [v] = [V.ref a'] ∧ _
  cases d with
  | tuple xs =>
    obtain ⟨r0, r1⟩ := r1
    have z := d1.apart S q1 (r0.imp id fun h => by simpa [lf] using h)
    cases z with
    | @tup p vs _ hs hd => exact ⟨p, vs, rfl, .inr ⟨Same.sqT hid_same hs, k _ H1 δ _ true q1 S1 (fun _ => rfl) (jgood_enT hs hd) r1⟩⟩
  | list xs =>
    have r1 : if a = true then R' (enD 0 xs) δ true else if f = true then lfAll xs = true ∧ R' (enD 0 xs) δ true else R' (enD 0 xs) (δ.map DL.disown) false := r1
    by_cases ha : a = true
    · rw [if_pos ha] at r1
      cases d1.ap ha with
      | @lst p vs _ hs hd =>
      obtain ⟨n, hs'⟩ := hid_some.mp hs
      exact ⟨p, vs, rfl, .inl ⟨SqL.of hs', k _ H1 δ _ true q1 S1 (fun _ => rfl) (jgood_enL (fun z => n (List.mem_append_left _ z)) (fun z => n (List.mem_append_right _ z)) hs' hd) r1⟩⟩
    · rw [if_neg ha] at r1
      by_cases hf : f = true
      · rw [if_pos hf] at r1
        obtain ⟨p, vs, ds, rfl, ⟨h0, n0⟩, h1, e, h2⟩ := d1.fr hf
        cases e
        have np := S.fresh h0
        exact ⟨p, vs, rfl, .inl ⟨SqL.of h1, k _ H1 δ _ true q1 S1 (fun _ => rfl) (jgood_enL n0 (fun z => np (List.mem_append_right _ z)) h1 ((h2.mono hid_same).lf (tupK_hid S1.noP) r1.1)) r1.2⟩⟩
      · rw [if_neg hf] at r1
        cases d1.q with
        | @lst p vs _ hs hd =>
        obtain ⟨n, hs'⟩ := hid_some.mp hs
        have hd' : DqAll X.K (hid (G.hd ++ addrs (δ.map DL.disown)) H1) vs xs := by rw [addrs_disown, List.append_nil]; exact hd
        exact ⟨p, vs, rfl, .inl ⟨SqL.of hs', k _ H1 _ _ false q1 S1.disown (fun z => by cases z) (jgood_enL n (by rw [addrs_disown]; exact fun z => by cases z) hs' hd') r1⟩⟩
  | _ => exact r1.elim
/-! ### x, y = zs.pop(), zs.pop() -/
def tdParPop (i j k : Nat) : TSd := fun E δ => match δ[k]? with
  | some (.own p xs) => ∃ ys x y, xs = ys ++ [y, x] ∧ flatD x = true ∧ flatD y = true ∧ E.nx (((δ.set k (.own p ys)).set i (.d x)).set j (.d y))
  | _ => False
theorem flat_lf {d : D} (h : flatD d = true) : lf d = true := by
  cases d <;> first | rfl | cases h
theorem ds_parPop (i j k : Nat) {x y : Str} {px py pt : Pos} {kt k2 pt2} (hc : X.calm = true) (hN : X.N.Nodup) (ha : PE X a (tBM0 X.K "list" rPop (tVar k))) (hb : PE X b (tBM0 X.K "list" rPop (tVar k))) (hi : X.N[i]? = some x := by rfl) (hj : X.N[j]? = some y := by rfl) (hij : i ≠ j := by decide)
    (hx : X.env.scope.names.lookup x = some .local := by rfl) (hy : X.env.scope.names.lookup y = some .local := by rfl)
    (hw : swappedStores [.Tuple [.Name x px, .Name y py] kt pt] (.Tuple [a, b] k2 pt2) X.env = pure (some [x, y]) := by rfl)
    (hs : swapsWithSole [.Tuple [.Name x px, .Name y py] kt pt] (.Tuple [a, b] k2 pt2) pos.line X.env = pure false := by rfl)
    (s1 : starEach [a, b] X.env = (false, eval a X.env) :: starEach [b] X.env := by rfl) (s2 : starEach [b] X.env = (false, eval b X.env) :: starEach [] X.env := by rfl) :
    DS X G (.Assign [.Tuple [.Name x px, .Name y py] kt pt] (.Tuple [a, b] k2 pt2) pos) (tdParPop i j k) := by
  refine ⟨PS.imp (ps_par hc hN hi hj hij hx hy (pa_cons ha (pa_cons hb pa_nil s2) s1) hw hs) fun D' σ H h => ?_⟩
  obtain ⟨δ, E, S, h, l⟩ := h
  unfold tdParPop at h
  split at h
  · rename_i p xs hk
    obtain ⟨e1, e2, e3, vs, e4, e5⟩ := S.at_ k _ hk
    obtain ⟨ys, dx, dy, rfl, fx, fy, h⟩ := h
    obtain ⟨v, hv, dv⟩ := getLast_vs e5 (by simp : (ys ++ [dy, dx]).getLast? = some dx)
    have e6 : DqAll X.K (hid (G.hd ++ addrs δ) H) vs.dropLast (ys ++ [dy]) := by
      have := e5.dropLast
      rwa [show (ys ++ [dy, dx]).dropLast = ys ++ [dy] by rw [show ys ++ [dy, dx] = (ys ++ [dy]) ++ [dx] by simp, List.dropLast_concat]] at this
    obtain ⟨w, hw, dw⟩ := getLast_vs e6 (by simp : (ys ++ [dy]).getLast? = some dy)
    have e7 : DqAll X.K (hid (G.hd ++ addrs δ) H) vs.dropLast.dropLast ys := by
      have := e6.dropLast
      rwa [List.dropLast_concat] at this
    refine ⟨_, e1, .inl ⟨rfl, _, SqL.of e4⟩, p, vs, v, rfl, rfl, e4, hv, _, e1, .inl ⟨rfl, _, SqL.of upd_same⟩, p, vs.dropLast, w, rfl, rfl, upd_same, hw, v, w, rfl, ?_⟩
    rw [upd_upd]
    have S2 := S.write hk e7
    have hm : p ∈ addrs δ := mem_addrs.mpr ⟨k, _, hk⟩
    have keep : Same (hid (G.hd ++ addrs δ) H) (hid (G.hd ++ addrs (δ.set k (.own p ys))) (upd H p (.lst vs.dropLast.dropLast))) := by
      rw [addrs_set_same hk]
      exact hid_mono fun b o hn e => ⟨by rw [upd_ne (fun z => hn (by rw [z]; exact List.mem_append_right _ hm))]; exact e, hn⟩
    have S3 := S2.setD (i := i) (dv.mono keep)
    have dw' : Dq X.K (hid (G.hd ++ addrs ((δ.set k (.own p ys)).set i (.d dx))) (upd H p (.lst vs.dropLast.dropLast))) w dy := by
      refine (dw.mono keep).mono (hid_mono fun b o hn e => ⟨e, fun z => hn ?_⟩)
      rcases List.mem_append.mp z with z | z
      · exact List.mem_append_left _ z
      · exact List.mem_append_right _ (addrs_set_sub (fun _ _ z => by cases z) b z)
    exact l.nx _ _ _ (S3.setD (i := j) dw') h
  · exact h.elim
theorem DqAll.of_strs {K : PySem.W.Frag} {H : Hp} : ∀ {ys : List Str}, (∀ y ∈ ys, sok y) → DqAll K H (ys.map V.str) (ys.map .str)
  | [], _ => .nil
  | y :: ys, h => .cons (.str y (h y (by simp))) (DqAll.of_strs fun z hz => h z (List.mem_cons_of_mem _ hz))
/-! ### sorted(dict([(text, scalar), ..])) -/
def kd : List Str → List Str → List Str
  | acc, [] => acc
  | acc, k :: ks => kd (if k ∈ acc then acc else acc ++ [k]) ks
theorem keys_put (kvs : List (Key × V)) (acc : List Str) (h : kvs.map (·.1) = acc.map Sum.inr) (k : Str) (v : V) : (putK kvs (.inr k) v).map (·.1) = (if k ∈ acc then acc else acc ++ [k]).map Sum.inr := by
  have hany : (kvs.any fun kv => decide (kv.1 = (.inr k : Key))) = decide (k ∈ acc) := by
    rw [show (kvs.any fun kv => decide (kv.1 = (.inr k : Key))) = (kvs.map (·.1)).any fun x => decide (x = (.inr k : Key)) by rw [List.any_map]; rfl, h, List.any_map]
    by_cases hk : k ∈ acc
    · rw [decide_eq_true hk, List.any_eq_true]
      exact ⟨k, hk, by simp⟩
    · rw [decide_eq_false hk, List.any_eq_false]
      intro x hx
      have : x ≠ k := fun z => hk (by rw [← z]; exact hx)
      simp [this]
  unfold putK
  by_cases hk : k ∈ acc
  · rw [if_pos (by rw [hany]; exact decide_eq_true hk), if_pos hk, List.map_map, ← h]
    apply List.map_congr_left
    intro kv _
    by_cases hz : kv.1 = (.inr k : Key)
    · simp [hz]
    · simp [hz]
  · rw [if_neg (by rw [hany, decide_eq_false hk]; exact Bool.false_ne_true), if_neg hk, List.map_append, List.map_append, h]
    rfl
theorem keys_merge : ∀ (ks : List (Str × V)) (kvs : List (Key × V)) (acc : List Str), kvs.map (·.1) = acc.map Sum.inr → (mergeK kvs (ks.map fun kv => ((.inr kv.1 : Key), kv.2))).map (·.1) = (kd acc (ks.map (·.1))).map Sum.inr
  | [], kvs, acc, h => h
  | kv :: ks, kvs, acc, h => by
    show (mergeK (putK kvs (.inr kv.1) kv.2) (ks.map fun kv => ((.inr kv.1 : Key), kv.2))).map (·.1) = _
    exact keys_merge ks _ _ (keys_put kvs acc h kv.1 kv.2)
theorem kd_len : ∀ (ks acc : List Str), (kd acc ks).length ≤ acc.length + ks.length
  | [], acc => Nat.le_refl _
  | k :: ks, acc => by
    have := kd_len ks (if k ∈ acc then acc else acc ++ [k])
    unfold kd
    split at this <;> simp only [List.length_append, List.length_cons, List.length_nil] at this ⊢ <;> simp_all <;> omega
theorem kd_mem : ∀ (ks acc : List Str) {S : List Str}, (∀ k ∈ acc, k ∈ ks ++ S) → ∀ k ∈ kd acc ks, k ∈ ks ++ S
  | [], acc, S, h => h
  | x :: ks, acc, S, h => fun k hk => by
    unfold kd at hk
    have ih := kd_mem ks (if x ∈ acc then acc else acc ++ [x]) (S := x :: S) (fun y hy => by
      have : y ∈ acc ∨ y = x := by
        split at hy
        · exact .inl hy
        · simpa using hy
      rcases this with z | z
      · have := h y z
        simp at this ⊢
        rcases this with z | z | z <;> simp [z]
      · simp [z]) k hk
    simp at ih ⊢
    rcases ih with z | z | z <;> simp [z]
def tdSortDict (t : TEd) : TEd := fun δ R => t δ fun d _ _ => ∃ kvs : List (Str × D), d = .list (kvs.map fun kv => .tuple [.str kv.1, kv.2]) ∧ kvs.length < 64 ∧ ∀ ys, ys.Perm (kd [] (kvs.map (·.1))) → sortedS ys = true → R (.list (ys.map .str)) true true
theorem pairs_of {K : PySem.W.Frag} {H : Hp} : ∀ {vs : List V} {kvs : List (Str × D)}, DqAll K H vs (kvs.map fun kv => .tuple [.str kv.1, kv.2]) → ∃ (ps : List Addr) (ws : List (Str × V)), vs = ps.map V.ref ∧ ws.map (·.1) = kvs.map (·.1) ∧ (∀ k ∈ ws.map (·.1), sok k) ∧ Paired (fun p kv => SqT K H p [kV kv.1, kv.2]) ps (ws.map fun kv => ((.inr kv.1 : Key), kv.2))
  | _, [], h => by cases h; exact ⟨[], [], rfl, rfl, (fun k hk => by simp at hk), .nil⟩
  | _, kv :: kvs, h => by
    cases h with
    | cons h1 h2 =>
      obtain ⟨ps, ws, rfl, e, sk, pr⟩ := pairs_of h2
      cases h1 with
      | @tup p xs _ hs hd =>
        obtain ⟨v, w, rfl, d1, d2⟩ := two_of hd
        have s1 : sok kv.1 := d1.clean
        cases d1
        exact ⟨p :: ps, (kv.1, w) :: ws, rfl, by simp [e], (fun k hk => by
          rcases List.mem_cons.mp hk with z | z
          · rw [z]; exact s1
          · exact sk k z), .cons hs pr⟩
theorem de_sortDict {p p2 pos2 : Pos} (hc : X.calm = true) (m1 : X.mg "sorted" = none) (m2 : X.mg "dict" = none) (h : DE X G e t) (g1 : Gl X "sorted" := by rfl) (g2 : Gl X "dict" := by rfl)
    (he : starEach [e] X.env = (false, eval e X.env) :: starEach [] X.env := by rfl) (he2 : starEach [.Call (.Name "dict" p2) [e] [] pos2] X.env = (false, eval (.Call (.Name "dict" p2) [e] [] pos2) X.env) :: starEach [] X.env := by rfl) (hb1 : bootBuiltins "sorted" = some (.builtin "sorted") := by decide +kernel) (hb2 : bootBuiltins "dict" = some (.type "dict") := by decide +kernel) :
    DE X G (.Call (.Name "sorted" p) [.Call (.Name "dict" p2) [e] [] pos2] [] pos) (tdSortDict t) := by
  refine ⟨PE.imp (pe_callB (call_sortedD hc) g1 m1 hb1 (pa_cons (pe_callTy (call_dictP hc) g2 m2 hb2 (pa_cons h.pe pa_nil he) (by decide) (by decide) he rfl) pa_nil he2) (by decide) (by decide) he2 rfl) fun σ H Q h => ?_⟩
  obtain ⟨δ, R, S, h, k⟩ := h
  refine ⟨δ, _, S, h, fun v H1 d a f q1 d1 r1 => ?_⟩
  obtain ⟨kvs, rfl, hl, r⟩ := r1
  have S1 := S.quiet q1
  cases d1.q.mono hid_same with
  | @lst q vs _ hs hd =>
  obtain ⟨ps, ws, rfl, ew, sk, pr⟩ := pairs_of hd
  refine ⟨q, ps, _, rfl, SqL.of hs, pr, fun D hD => ?_⟩
  have qD := S1.env.new hD (.dK (mergeK [] (ws.map fun kv => ((.inr kv.1 : Key), kv.2))))
  have S2 := S1.quiet qD
  have hk := keys_merge ws [] [] rfl
  refine ⟨D, _, kd [] (ws.map (·.1)), rfl, .inl upd_same, hk, Nat.lt_of_le_of_lt (kd_len _ []) (by rw [ew]; simpa using hl), fun ys L perm so hL => ?_⟩
  have sy : ∀ y ∈ ys, sok y := fun y hy => sk y ((by have := kd_mem (ws.map (·.1)) [] (S := []) (fun k hk => by cases hk) y (perm.mem_iff.mp hy); simpa using this))
  rw [ew] at perm
  obtain ⟨q2, r2⟩ := VR.newLst (a := true) S2 (H := upd H1 D (.dK (mergeK [] (ws.map fun kv => ((.inr kv.1 : Key), kv.2))))) S2.env.refl hL (vs := ys.map V.str) (ds := ys.map .str) ⟨DqAll.of_strs sy⟩
  exact k _ _ _ _ _ ((q1.trans qD).trans q2) (r2.from S.env (q1.trans qD)) (r ys perm so)
end
end DL

set_option Elab.async false
set_option linter.all false
set_option maxRecDepth 100000
set_option maxHeartbeats 4000000
namespace DL
open PySem PySem.Spec PyProof.Rows L2
/-! ### _law_mixed: the things in any sequence -/
def rListV (K : PySem.W.Frag) : List V → Hp → VK → Prop := fun xs H Q => ∃ p ys, xs = [.ref p] ∧ (SqL K H p ys ∨ SqT K H p ys) ∧ ∀ l, H l = none → Q (.ref l) (upd H l (.lst ys))
abbrev tLen1 (K : PySem.W.Frag) (i : Nat) : TE := tCB (rLen1 K) (tCons (tVar i) tNil)
def tMixed (K : PySem.W.Frag) : TS :=
  tSeq (tAsg (tCB (rListV K) (tCons (tVar 1) tNil)) (gName 2))
    (tRet (tLc (iRng1 (tCons (tLen1 K 2) tNil)) (gName 3) tYes (tBM K "list" rPopAt (tVar 2) (tCons (tCall (spS K g_law_pick) [] E0 (tCons (tVar 0) (tCons (tLen1 K 2) tNil))) tNil)) (([("lap", 3)] : List (Str × Nat)).map (·.2))))
def seqOf : D → Option (List D)
  | .list xs => some xs
  | .tuple xs => some xs
  | _ => none
def g_law_mixed : Spec := fun ds R => ∃ d xs, ds = [d] ∧ seqOf d = some xs ∧ xs.length ≤ 1000 ∧ ∀ ys, ys.Perm xs → R (.list ys) true
theorem pick_perm {α : Type} {d : α} : ∀ {l : List α} {k : Nat}, l[k]? = some d → (d :: l.eraseIdx k).Perm l
  | [], _, e => by simp at e
  | x :: l, 0, e => by
    have : x = d := by simpa using e
    subst this
    exact List.Perm.refl _
  | x :: l, k + 1, e => by
    have ih := pick_perm (l := l) (k := k) (by simpa using e)
    exact (List.Perm.swap x d _).trans (ih.cons x)
theorem mixed_run {K : PySem.W.Frag} {D : L2.Ends} {H : Hp} {vs : List V} {E : XK} (h : spS K g_law_mixed vs H D.rt E) : tMixed K D (L2.start ["source", "things", "rest", "lap"] vs) H := by
  obtain ⟨a, lc, rest, hd, ds, R, rfl, en, z, ⟨d, xs, rfl, hsq, hlen, r⟩, q⟩ := h
  obtain ⟨v, rfl, dv⟩ := one_of z
  show tMixed K D [some (.ref a), some v, none, none] H
  obtain ⟨b, us, rfl, hq, hu⟩ : ∃ b us, v = .ref b ∧ (SqL K H b us ∨ SqT K H b us) ∧ DqAll K (hid hd H) us xs := by
    cases d with
    | list ys =>
      cases hsq
      cases dv with
      | @lst p ws _ hs hd => exact ⟨p, ws, rfl, .inl (SqL.of (hid_some.mp hs).2), hd⟩
    | tuple ys =>
      cases hsq
      cases dv with
      | @tup p ws _ hs hd => exact ⟨p, ws, rfl, .inr (Same.sqT hid_same hs), hd⟩
    | _ => cases hsq
  have hul := hu.length
  refine ⟨.ref b, rfl, b, us, rfl, hq, fun p hp => ?_⟩
  have l1 : ∀ (us : List V) (H' : Hp), H' p = some (.lst us) → LenV K (.ref p) H' us.length := fun us H' e => .inl ⟨us, SqL.of e, rfl⟩
  refine ⟨.ref p, rfl, .ref p, us.length, rfl, l1 us _ upd_same, (us.length : Int), rfl, by omega, by omega, fun L hL => ?_⟩
  have hpL : L ≠ p := fun z => by rw [z, upd_same] at hL; cases hL
  have hL0 : H L = none := by rw [upd_ne hpL] at hL; exact hL
  have G0 : ∀ b ∈ Gd.sl ⟨H, some (a, lc), hd⟩, H b ≠ none := fun b hb e => by
    obtain ⟨o, e'⟩ := en.hdt b (en.slh b hb)
    rw [e] at e'; cases e'
  have npsl : p ∉ Gd.sl ⟨H, some (a, lc), hd⟩ := fun z => G0 p z hp
  have nLsl : L ∉ Gd.sl ⟨H, some (a, lc), hd⟩ := fun z => G0 L z hL0
  have np : p ∉ hd := fun z => by obtain ⟨o, e'⟩ := en.hdt p z; have e' : H p = some o := e'; rw [hp] at e'; cases e'
  have nL : L ∉ hd := fun z => by obtain ⟨o, e'⟩ := en.hdt L z; have e' : H L = some o := e'; rw [hL0] at e'; cases e'
  have q00 : Qs ⟨H, some (a, lc), hd⟩ H (upd H p (.lst us)) := en.new hp _
  have q01 : Qs ⟨H, some (a, lc), hd⟩ (upd H p (.lst us)) (upd (upd H p (.lst us)) L (.lst [])) := (en.quiet q00).new hL _
  -- the word at each turn
  have en0 : (us.length : Int).toNat = us.length := by omega
  rw [en0]
  refine lc_range (fun i H' => ∃ (rs acc : List V) (rD aD : List DL.D), Qs ⟨H, some (a, lc), hd⟩ H H' ∧ H' p = some (.lst rs) ∧ H' L = some (.lst acc) ∧ DqAll K (hid hd H) rs rD ∧ DqAll K (hid hd H) acc aD ∧ (aD ++ rD).Perm xs ∧ rD.length + i = us.length) ?_ ?_ ?_
  · exact ⟨us, [], xs, [], q00.trans q01, by rw [upd_ne (Ne.symm hpL), upd_same], upd_same, hu, .nil, List.Perm.refl _, by rw [hul]; rfl⟩
  · rintro i H' hi ⟨rs, acc, rD, aD, qs, e1, e2, d1, d2, pm, hl⟩
    have hrl := d1.length
    refine ⟨rfl, .ref p, rfl, .inl ⟨rfl, rs, SqL.of e1⟩, .ref a, rfl, .ref p, rfl, .ref p, rs.length, rfl, l1 rs H' e1, ?_⟩
    have en' := en.quiet qs
    -- the draw
    refine ⟨a, lc, [.int rs.length], hd, [.int rs.length], (fun d _ => ∃ k : Int, d = .int k ∧ 0 ≤ k ∧ k < max 1 (rs.length : Int)), rfl, ⟨en'.src, en'.slh, en'.hdt, en'.hdn, fun b o e n => e⟩, .cons (.int _) .nil, ⟨rs.length, rfl, by omega, fun k k0 k1 => ⟨k, rfl, k0, k1⟩⟩, fun v H2 d f q2 z2 _ hr => ?_⟩
    obtain ⟨k, rfl, k0, k1⟩ := hr
    cases z2
    have q2' : Qs ⟨H, some (a, lc), hd⟩ H' H2 := ⟨fun b o e n => q2.st b o e n, q2.src⟩
    have e1' := q2'.st p _ e1 npsl
    have e2' := q2'.st L _ e2 nLsl
    have k2 : k < rs.length := by rw [Int.max_def] at k1; split at k1 <;> omega
    clear k1
    have hk : k.toNat < rs.length := by omega
    obtain ⟨y, ey⟩ : ∃ y, rs[k.toNat]? = some y := ⟨_, List.getElem?_eq_getElem hk⟩
    obtain ⟨dy, edy, zy⟩ := d1.getV ey
    have six : seqIndex? k rs.length = some k.toNat := by
      unfold seqIndex?
      have n : ¬ k < 0 := by omega
      simp only [if_neg n]
      exact if_pos (by simpa using ⟨k0, k2⟩)
    refine ⟨p, rs, k, k.toNat, y, rfl, rfl, e1', by omega, by omega, six, ey, acc, by rw [upd_ne hpL]; exact e2', ?_, ?_⟩
    · have := pm.length_eq
      rw [List.length_append] at this
      rw [d2.length, sizeLine_eq]; omega
    · have q3 : Qs ⟨H, some (a, lc), hd⟩ H (upd (upd H2 p (.lst (rs.eraseIdx k.toNat))) L (.lst (acc ++ [y]))) := by
        have q4 := qs.trans q2'
        refine ⟨fun b o e n => ?_, fun a' lc' e => ?_⟩
        · have n1 : b ≠ p := ne_of_none e hp
          have n2 : b ≠ L := ne_of_none e hL0
          rw [upd_ne n2, upd_ne n1]; exact q4.st b o e n
        · cases e
          obtain ⟨⟨c, l, m, t, x1, x2, x3⟩⟩ := q4.src a lc rfl
          have ha : ∀ b ∈ [a, lc], b ≠ p ∧ b ≠ L := fun b hb => ⟨fun z => npsl (by rw [← z]; exact hb), fun z => nLsl (by rw [← z]; exact hb)⟩
          exact ⟨⟨c, l, m, t, by rw [upd_ne (ha a (by simp)).2, upd_ne (ha a (by simp)).1]; exact x1, by rw [upd_ne (ha lc (by simp)).2, upd_ne (ha lc (by simp)).1]; exact x2, x3⟩⟩
      refine ⟨rs.eraseIdx k.toNat, acc ++ [y], rD.eraseIdx k.toNat, aD ++ [dy], q3, by rw [upd_ne (Ne.symm hpL), upd_same], upd_same, d1.eraseIdx _, d2.append (.cons zy .nil), ?_, ?_⟩
      · refine List.Perm.trans ?_ pm
        rw [List.append_assoc]
        refine List.Perm.append_left _ ?_
        show (dy :: rD.eraseIdx k.toNat).Perm rD
        exact pick_perm edy
      · rw [List.length_eraseIdx]
        split <;> omega
  · rintro H' ⟨rs, acc, rD, aD, qs, e1, e2, d1, d2, pm, hl⟩
    have : rD = [] := List.length_eq_zero_iff.mp (by omega)
    subst this
    rw [List.append_nil] at pm
    have dz : DqAll K (hid (L :: hd) H') acc aD := d2.mono (hid_mono fun b o hn e => ⟨qs.st b o e fun z => hn (en.slh b z), fun z => by
      rcases List.mem_cons.mp z with z | z
      · rw [z, hL0] at e; cases e
      · exact hn z⟩)
    refine q _ H' _ true qs (.lst (hid_some.mpr ⟨nL, e2⟩) (dz.mono (hid_mono fun b o hn e => ⟨e, fun z => hn (List.mem_cons_of_mem _ z)⟩))) (fun _ => ⟨L, acc, aD, rfl, ⟨hL0, nL⟩, e2, rfl, dz⟩) (r aD pm)
end DL

set_option Elab.async false
set_option linter.all false
set_option maxRecDepth 100000
set_option maxHeartbeats 4000000
namespace DL
open PySem PySem.Spec PyProof.Rows L2
section
variable {X : Cx} {G : Gd} {pos : Pos} {e a b c : Expr} {t ta tb tc : TEd}
def tdPar3 (i j l : Nat) (ta tb tc : TEd) : TSd := fun E δ => ta δ fun x a f => tb δ fun y b g => tc δ fun z c h => (f = false ∧ g = false) ∧ putD i x a f δ fun δ1 => putD j y b g δ1 fun δ2 => putD l z c h δ2 E.nx
theorem VR.sub {K : PySem.W.Frag} {P P' : List Addr} {H H' : Hp} {v : V} {d : D} {a f : Bool} (r : VR K G P H v H' d a f) (s : ∀ p, p ∈ P' → p ∈ P) : VR K G P' H v H' d a f := .of r.q (fun z => (r.ap z).mono (hid_mono fun b o hn e => ⟨e, fun z => hn (by
  rcases List.mem_append.mp z with z | z
  · exact List.mem_append_left _ z
  · exact List.mem_append_right _ (s b z))⟩)) r.fr
theorem ds_par3 (i j l : Nat) {x y z : Str} {px py pz pt : Pos} {kt k2 pt2} (hc : X.calm = true) (hN : X.N.Nodup) (ha : DE X G a ta) (hb : DE X G b tb) (hcc : DE X G c tc) (hi : X.N[i]? = some x := by rfl) (hj : X.N[j]? = some y := by rfl) (hl : X.N[l]? = some z := by rfl) (hij : i ≠ j := by decide) (hil : i ≠ l := by decide) (hjl : j ≠ l := by decide)
    (hx : X.env.scope.names.lookup x = some .local := by rfl) (hy : X.env.scope.names.lookup y = some .local := by rfl) (hz : X.env.scope.names.lookup z = some .local := by rfl)
    (hw : swappedStores [.Tuple [.Name x px, .Name y py, .Name z pz] kt pt] (.Tuple [a, b, c] k2 pt2) X.env = pure (some [x, y, z]) := by rfl)
    (hs : swapsWithSole [.Tuple [.Name x px, .Name y py, .Name z pz] kt pt] (.Tuple [a, b, c] k2 pt2) pos.line X.env = pure false := by rfl)
    (s1 : starEach [a, b, c] X.env = (false, eval a X.env) :: starEach [b, c] X.env := by rfl) (s2 : starEach [b, c] X.env = (false, eval b X.env) :: starEach [c] X.env := by rfl) (s3 : starEach [c] X.env = (false, eval c X.env) :: starEach [] X.env := by rfl) :
    DS X G (.Assign [.Tuple [.Name x px, .Name y py, .Name z pz] kt pt] (.Tuple [a, b, c] k2 pt2) pos) (tdPar3 i j l ta tb tc) := by
  refine ⟨PS.imp (ps_par3 hc hN hi hj hl hij hil hjl hx hy hz (pa_cons ha.pe (pa_cons hb.pe (pa_cons hcc.pe pa_nil s3) s2) s1) hw hs) fun D' σ H h => ?_⟩
  obtain ⟨δ, E, S, h, l⟩ := h
  refine ⟨δ, _, S, h, fun v1 H1 d1 a1 f1 q1 z1 r1 => ?_⟩
  have S1 := S.quiet q1
  refine ⟨δ, _, S1, r1, fun v2 H2 d2 a2 f2 q2 z2 r2 => ?_⟩
  have S2 := S1.quiet q2
  refine ⟨δ, _, S2, r2, fun v3 H3 d3 a3 f3 q3 z3 r3 => ⟨v1, v2, v3, rfl, ?_⟩⟩
  obtain ⟨⟨rfl, rfl⟩, r⟩ := r3
  obtain ⟨δ', S', h', sub⟩ := S.put q1 z1 r
  have sub' : ∀ p, p ∈ addrs δ' → p ∈ addrs δ := fun p hp => (sub p hp).elim id fun z => by cases z.1
  obtain ⟨δ'', S'', h'', sub2⟩ := S'.put q2 (z2.sub sub') h'
  have sub2' : ∀ p, p ∈ addrs δ'' → p ∈ addrs δ := fun p hp => (sub2 p hp).elim (sub' p) fun z => by cases z.1
  obtain ⟨δ3, S3, h3, _⟩ := S''.put q3 (z3.sub sub2') h''
  exact l.nx δ3 _ H3 S3 h3
/-- x, y, z = a, b, c where the tuple is made first -/
theorem ds_par3C (i j l : Nat) {x y z : Str} {px py pz pt : Pos} {kt k2 pt2} (hc : X.calm = true) (hN : X.N.Nodup) (ha : DE X G a ta) (hb : DE X G b tb) (hcc : DE X G c tc) (hi : X.N[i]? = some x := by rfl) (hj : X.N[j]? = some y := by rfl) (hl : X.N[l]? = some z := by rfl)
    (hx : Loc X.env.scope x := by first | exact Or.inl rfl | exact Or.inr rfl) (hy : Loc X.env.scope y := by first | exact Or.inl rfl | exact Or.inr rfl) (hz : Loc X.env.scope z := by first | exact Or.inl rfl | exact Or.inr rfl)
    (hfx : X.fn x = true ∨ X.env.scope.names.lookup x = some .local := by first | exact .inl rfl | exact .inr rfl | assumption) (hfy : X.fn y = true ∨ X.env.scope.names.lookup y = some .local := by first | exact .inl rfl | exact .inr rfl | assumption) (hfz : X.fn z = true ∨ X.env.scope.names.lookup z = some .local := by first | exact .inl rfl | exact .inr rfl | assumption)
    (hs : swapsWithSole [.Tuple [.Name x px, .Name y py, .Name z pz] kt pt] (.Tuple [a, b, c] k2 pt2) pos.line X.env = pure false := by rfl) (hw : swappedStores [.Tuple [.Name x px, .Name y py, .Name z pz] kt pt] (.Tuple [a, b, c] k2 pt2) X.env = pure none := by rfl)
    (h1 : (assignEach [.Tuple [.Name x px, .Name y py, .Name z pz] kt pt] X.env).map (·.2) = [assign (.Tuple [.Name x px, .Name y py, .Name z pz] kt pt) X.env] := by rfl)
    (hn : (assignEach [.Name x px, .Name y py, .Name z pz] X.env).length = 3 := by rfl) (hst : (assignEach [.Name x px, .Name y py, .Name z pz] X.env).findIdx? (·.1) = none := by rfl)
    (s1 : starEach [a, b, c] X.env = (false, eval a X.env) :: starEach [b, c] X.env := by rfl) (s2 : starEach [b, c] X.env = (false, eval b X.env) :: starEach [c] X.env := by rfl) (s3 : starEach [c] X.env = (false, eval c X.env) :: starEach [] X.env := by rfl) :
    DS X G (.Assign [.Tuple [.Name x px, .Name y py, .Name z pz] kt pt] (.Tuple [a, b, c] k2 pt2) pos) (tdPar3 i j l ta tb tc) := by
  refine ⟨PS.imp (ps_asg (pe_tup (pa_cons ha.pe (pa_cons hb.pe (pa_cons hcc.pe pa_nil s3) s2) s1)) (pg_tup hc (pgs_cons (pg_name hN hi hx hfx) (pgs_cons (pg_name hN hj hy hfy) (pgs_cons (pg_name hN hl hz hfz) pgs_nil))) hn hst) hs hw h1) fun D' σ H h => ?_⟩
  obtain ⟨δ, E, S, h, l⟩ := h
  refine ⟨δ, _, S, h, fun v1 H1 d1 a1 f1 q1 z1 r1 => ?_⟩
  have S1 := S.quiet q1
  refine ⟨δ, _, S1, r1, fun v2 H2 d2 a2 f2 q2 z2 r2 => ?_⟩
  have S2 := S1.quiet q2
  refine ⟨δ, _, S2, r2, fun v3 H3 d3 a3 f3 q3 z3 r3 => ⟨(show 3 ≤ sizeLine by rw [sizeLine_eq]; decide), fun T hT => ?_⟩⟩
  have S3 := S2.quiet q3
  have qT := S3.env.new hT (.tup [v1, v2, v3])
  refine ⟨T, [v1, v2, v3], rfl, .inl (.inl upd_same), rfl, ?_⟩
  obtain ⟨⟨rfl, rfl⟩, r⟩ := r3
  obtain ⟨δ', S', h', sub⟩ := S.put q1 z1 r
  have sub' : ∀ p, p ∈ addrs δ' → p ∈ addrs δ := fun p hp => (sub p hp).elim id fun z => by cases z.1
  obtain ⟨δ'', S'', h'', sub2⟩ := S'.put q2 (z2.sub sub') h'
  have sub2' : ∀ p, p ∈ addrs δ'' → p ∈ addrs δ := fun p hp => (sub2 p hp).elim (sub' p) fun z => by cases z.1
  obtain ⟨δ3, S4, h3, _⟩ := S''.put (q3.trans qT) ((z3.sub sub2').later S3.env qT) h''
  exact ⟨_, _, rfl, _, _, rfl, _, _, rfl, rfl, l.nx δ3 _ _ S4 h3⟩
end
/-! ### a module's constant that is data -/
def GC (K : PySem.W.Frag) (mg : Str → Option Value) (x : Str) (d : D) : Prop := ∃ u v, mg x = some u ∧ RelV v u ∧ ∀ H, Dq K H v d
theorem de_gc {X : Cx} {G : Gd} {x : Str} {d : D} {pos : Pos} (c : GC X.K X.mg x d) (hg : Gl X x := by rfl) (hdb : (x == ("__debug__" : Str)) = false := by decide) : DE X G (.Name x pos) (tdC d) := by
  have h : PE X (.Name x pos) (lE X.K G (tdC d)) := by
    obtain ⟨u, v, h1, h2, h3⟩ := c
    exact (de_glob h1 h2 h3 hg hdb).pe
  exact ⟨h⟩
theorem gc_int {K : PySem.W.Frag} {mg : Str → Option Value} {x : Str} {i : Int} {t : Tok} (m : mg x = some (.int i t)) : GC K mg x (.int i) := ⟨_, .int i, m, ⟨t, rfl⟩, fun _ => .int i⟩
theorem gc_str {K : PySem.W.Frag} {mg : Str → Option Value} {x i : Str} {t : Tok} (m : mg x = some (.str i t)) (h : sok i) : GC K mg x (.str i) := ⟨_, .str i, m, ⟨t, rfl⟩, fun _ => .str i h⟩
/-- texts in a tuple that stands in the text's constants -/
theorem gc_tup {K : PySem.W.Frag} {mg : Str → Option Value} {x : Str} {a : Addr} {o : Obj} {its : List Value} {n : Nat} {ys : List Str} (m : mg x = some (.ref a)) (l : K.lookup a = some o) (hc : o.cls = .type "tuple") (hd : o.data = .seq its.toArray n) (hl : its.length ≤ sizeLine) (r : Vals (ys.map V.str) its) (h : ∀ y ∈ ys, sok y) : GC K mg x (.tuple (ys.map .str)) :=
  ⟨_, .ref a, m, rfl, fun _ => .tup (.inr ⟨o, its.toArray, n, l, hc, hd, by simpa using hl, by simpa using r⟩) (DqAll.of_strs h)⟩
/-! ### no promise at all; defs that call themselves -/
theorem own_none {P : Program} {w : World} {K : PySem.W.Frag} {mg : Str → Option Value} {base : Heap} {k : Nat} {x : Str} {st : Stmt} {ps : List Str} (A : Raw K mg x st ps) : Own P w K mg base k x ps (spD K fun _ _ => False) :=
  .mk' A fun f fd F => ⟨fun vs H Q E h => by obtain ⟨_, _, _, _, _, z, _⟩ := h; exact z.elim, fun A outer s H args us vs Q E hr hG he hb hv h => by obtain ⟨_, _, _, _, _, z, _⟩ := h; exact z.elim⟩
theorem own_noneS {P : Program} {w : World} {K : PySem.W.Frag} {mg : Str → Option Value} {base : Heap} {k : Nat} {x : Str} {st : Stmt} {ps : List Str} (A : Raw K mg x st ps) : Own P w K mg base k x ps (spS K fun _ _ => False) :=
  .mk' A fun f fd F => ⟨fun vs H Q E h => by obtain ⟨_, _, _, _, _, _, _, _, _, z, _⟩ := h; exact z.elim, fun A outer s H args us vs Q E hr hG he hb hv h => by obtain ⟨_, _, _, _, _, _, _, _, _, z, _⟩ := h; exact z.elim⟩
theorem Own.up {P : Program} {w : World} {K : PySem.W.Frag} {mg : Str → Option Value} {base : Heap} {j k : Nat} {x : Str} {ps : List Str} {sp : Sp} (O : Own P w K mg base j x ps sp) (h : j ≤ k) : Own P w K mg base k x ps sp := by
  obtain ⟨f, fd, F, r⟩ := O.ex
  exact ⟨f, fd, F.mono h, r⟩
theorem own_mixed {P : Program} {w : World} {K : PySem.W.Frag} {mg : Str → Option Value} {base : Heap} {st : Stmt} (A : Raw K mg "_law_mixed" st ["source", "things"]) (S : FnScope ["source", "things", "rest", "lap"] ["source", "things"] (defScope st))
    (hb : ∀ (f : Addr) (cdv : Value) (A : Around) (outer : List PySem.Env) (s : Shared) (H : Hp) (E : XK), Room 1 (A.deeper (envOfC "_law_mixed" (defScope st) s.heap.objs.size f cdv)) → Bare A → PSs (cxOf CX0 P w K mg base ["source", "things", "rest", "lap"] "_law_mixed" (defScope st) f cdv A outer s H E).nox (defBody st) (tMixed K)) :
    Own P w K mg base 2 "_law_mixed" ["source", "things"] (spS K g_law_mixed) :=
  .mk' A fun f fd F => fn_ofD F S (fun vs H Q E h => by
    obtain ⟨a, lc, rest, hd, ds, R, rfl, en, z, ⟨d, xs, rfl, _⟩, _⟩ := h
    cases z with | cons z1 z2 => cases z2; rfl) fun cdv A outer s H vs Q E hr hG h => ⟨_, (hb f cdv A outer s H E hr hG).nox, mixed_run h⟩
end DL

set_option Elab.async false
set_option linter.all false
set_option maxRecDepth 100000
set_option maxHeartbeats 4000000
namespace DL
open PySem PySem.Spec PyProof.Rows L2
/-! ### readings reckoned -/
/-- a comprehension whose test and item are reckoned -/
theorem lcGo_fm {g : TGd} {tt : TTd} {te : TEd} {δ : List SD} (p : D → Bool) (f : D → D) (fa : Bool) : ∀ (xs acc : List D) (a : Bool) (R : List D → Bool → Prop),
    (∀ x ∈ xs, ∀ (K1 : D → Bool → Prop) (K2 : Prop), (p x = true → K1 (f x) fa) → (p x = false → K2) → g x true false δ fun δ2 => addrs δ2 = addrs δ ∧ tt δ2 fun b => if b = true then te δ2 fun y ya _ => K1 y ya else K2) →
    acc.length + xs.length ≤ sizeLine → (∀ a', (fa = true → a' = a) → R (acc ++ (xs.filter p).map f) a') → lcGo g tt te δ xs acc a R
  | [], acc, a, R, _, _, hR => by
    have := hR a fun _ => rfl
    show R acc a
    simpa using this
  | x :: xs, acc, a, R, h, hl, hR => by
    have hl' : acc.length + 1 + xs.length ≤ sizeLine := by rw [List.length_cons] at hl; omega
    refine h x (by simp) (fun y ya => acc.length < sizeLine ∧ lcGo g tt te δ xs (acc ++ [y]) (a && ya) R) (lcGo g tt te δ xs acc a R) (fun hp => ⟨by omega, ?_⟩) fun hp => ?_
    · refine lcGo_fm p f fa xs _ _ R (fun z hz => h z (List.mem_cons_of_mem _ hz)) (by rw [List.length_append, List.length_singleton]; omega) fun a' ha => ?_
      have := hR a' fun z => by rw [ha z, z, Bool.and_true]
      simpa [List.filter_cons, hp] using this
    · refine lcGo_fm p f fa xs _ _ R (fun z hz => h z (List.mem_cons_of_mem _ hz)) (by omega) fun a' ha => ?_
      have := hR a' ha
      simpa [List.filter_cons, hp] using this
/-- no test -/
theorem lcGo_map {g : TGd} {te : TEd} {δ : List SD} (f : D → D) (fa : Bool) (xs : List D) (R : List D → Bool → Prop)
    (h : ∀ x ∈ xs, ∀ K1 : D → Bool → Prop, K1 (f x) fa → g x true false δ fun δ2 => addrs δ2 = addrs δ ∧ te δ2 fun y ya _ => K1 y ya) (hl : xs.length ≤ sizeLine) (hR : ∀ a', (fa = true → a' = true) → R (xs.map f) a') : lcGo g (fun _ R => R true) te δ xs [] true R := by
  refine lcGo_fm (fun _ => true) f fa xs [] true R (fun x hx K1 K2 h1 h2 => ?_) (by simpa using hl) fun a' ha => ?_
  · have := h x hx K1 (h1 rfl)
    simpa using this
  · rw [show xs.filter (fun _ => true) = xs from List.filter_eq_self.mpr fun _ _ => rfl]
    simpa using hR a' ha
/-- a comprehension of draws: each item has its word -/
theorem lcGo_all {g : TGd} {te : TEd} {δ : List SD} (W : D → Prop) (fa : Bool) : ∀ (xs acc : List D) (a : Bool) (R : List D → Bool → Prop),
    (∀ x ∈ xs, ∀ K1 : D → Bool → Prop, (∀ y, W y → K1 y fa) → g x true false δ fun δ2 => addrs δ2 = addrs δ ∧ te δ2 fun y ya _ => K1 y ya) →
    acc.length + xs.length ≤ sizeLine → (∀ ys a', (∀ y ∈ ys, W y) → ys.length = xs.length → (fa = true → a' = a) → R (acc ++ ys) a') → lcGo g (fun _ R => R true) te δ xs acc a R
  | [], acc, a, R, _, _, hR => by
    have := hR [] a (by simp) rfl fun _ => rfl
    show R acc a
    simpa using this
  | x :: xs, acc, a, R, h, hl, hR => by
    have hl' : acc.length + 1 + xs.length ≤ sizeLine := by rw [List.length_cons] at hl; omega
    have := h x (by simp) (fun y ya => acc.length < sizeLine ∧ lcGo g (fun _ R => R true) te δ xs (acc ++ [y]) (a && ya) R) fun y hy => ⟨by omega, by
      refine lcGo_all W fa xs _ _ R (fun z hz => h z (List.mem_cons_of_mem _ hz)) (by rw [List.length_append, List.length_singleton]; omega) fun ys a' hw hy' ha => ?_
      have := hR (y :: ys) a' (fun z hz => (List.mem_cons.mp hz).elim (fun e => by rw [e]; exact hy) (hw z)) (by simp [hy']) fun z => by rw [ha z, z, Bool.and_true]
      simpa using this⟩
    simpa [lcGo] using this
theorem ixN_nat {n k : Nat} (h : k < n) : ixN n (k : Int) = some k := by
  unfold ixN
  rw [if_pos (by omega), if_pos (by omega)]
  simp
theorem at_nat {α : Type} {xs : List α} {k : Nat} {x : α} (h : xs[k]? = some x) : atI xs (k : Int) = some x := by
  have hl := (List.getElem?_eq_some_iff.mp h).1
  unfold atI
  rw [ixN_nat hl]
  exact h
theorem at0 {α : Type} {x : α} {xs : List α} : atI (x :: xs) 0 = some x := at_nat (k := 0) rfl
theorem at1 {α : Type} {a x : α} {xs : List α} : atI (a :: x :: xs) 1 = some x := at_nat (k := 1) rfl
theorem at2 {α : Type} {a b x : α} {xs : List α} : atI (a :: b :: x :: xs) 2 = some x := at_nat (k := 2) rfl
theorem at3 {α : Type} {a b c x : α} {xs : List α} : atI (a :: b :: c :: x :: xs) 3 = some x := at_nat (k := 3) rfl
theorem at4 {α : Type} {a b c d x : α} {xs : List α} : atI (a :: b :: c :: d :: x :: xs) 4 = some x := at_nat (k := 4) rfl
theorem at_last {α : Type} {xs : List α} {x : α} (h : xs.getLast? = some x) : atI xs (-1) = some x := by
  have hne : xs ≠ [] := fun z => by rw [z] at h; cases h
  have hl : 0 < xs.length := List.length_pos_iff.mpr hne
  unfold atI ixN
  rw [if_neg (by decide), if_pos (by omega)]
  rw [List.getLast?_eq_getElem?] at h
  have e : (-1 + (xs.length : Int)).toNat = xs.length - 1 := by omega
  rw [e]
  exact h
theorem eqv_nil (xs : List D) : PyData.eqv (.list xs) (.list []) = xs.isEmpty := by cases xs <;> rfl
theorem eqv_nilT (xs : List D) : PyData.eqv (.tuple xs) (.tuple []) = xs.isEmpty := by cases xs <;> rfl
theorem min_nil (d : D) : min d.depth (PyData.list []).depth ≤ 64 := Nat.le_trans (Nat.min_le_right _ _) (by decide)
theorem min_nilT (d : D) : min d.depth (PyData.tuple []).depth ≤ 64 := Nat.le_trans (Nat.min_le_right _ _) (by decide)
theorem le_line {n : Nat} (h : n ≤ 16777216) : n ≤ sizeLine := by rw [sizeLine_eq]; exact h
theorem lt_line {n : Nat} (h : n < 16777216) : n < sizeLine := by rw [sizeLine_eq]; exact h
theorem lf_strs (ss : List Str) : lfAll (ss.map PyData.str) = true := lf_all.mpr fun x hx => by obtain ⟨s, _, rfl⟩ := List.mem_map.mp hx; rfl
theorem mem_enD : ∀ {xs : List D} {k : Nat} {x : D}, x ∈ enD k xs → ∃ i y, xs[i]? = some y ∧ x = .tuple [.int ((k + i : Nat) : Int), y]
  | [], _, _, h => by simp [enD] at h
  | y :: ys, k, x, h => by
    unfold enD at h
    rcases List.mem_cons.mp h with h | h
    · exact ⟨0, y, rfl, by simpa using h⟩
    · obtain ⟨i, z, e, h⟩ := mem_enD h
      exact ⟨i + 1, z, by simpa using e, by rw [h, show k + 1 + i = k + (i + 1) by omega]⟩
theorem any_strs (ss : List Str) (x : Str) : (ss.map PyData.str).any (fun z => PyData.eqv z (.str x)) = decide (x ∈ ss) := by
  induction ss with
  | nil => rfl
  | cons s ss ih =>
    rw [List.map_cons, List.any_cons, ih]
    show (s == x || decide (x ∈ ss)) = decide (x ∈ s :: ss)
    by_cases h : x = s
    · subst h; simp
    · have : (s == x) = false := by simpa using fun z : s = x => h z.symm
      rw [this]; simp [h]
theorem flat_strs (ss : List Str) : (ss.map PyData.str).all flatD = true := by
  rw [List.all_eq_true]; intro x hx; obtain ⟨s, _, rfl⟩ := List.mem_map.mp hx; rfl
/-! ### stores of data without lists -/
theorem putD_lf {i : Nat} {x : D} {a f : Bool} {δ : List SD} {Q : List SD → Prop} (h : lf x = true) (q : Q (δ.set i (.d x))) : putD i x a f δ Q := by
  cases x with
  | list _ => cases h
  | dict _ => cases h
  | tuple xs =>
    have h : lfAll xs = true := h
    dsimp only [putD]
    rw [if_pos (by rw [h, Bool.or_true])]
    exact q
  | _ => exact q
theorem putD_ap {i : Nat} {x : D} {δ : List SD} {Q : List SD → Prop} (h : ∀ kv, x ≠ .dict kv) (q : Q (δ.set i (.d x))) : putD i x true false δ Q := by
  cases x with
  | dict kv => exact absurd rfl (h kv)
  | list xs => dsimp only [putD]; rw [if_neg (by simp), if_pos rfl]; exact q
  | tuple xs => dsimp only [putD]; rw [if_pos (by simp)]; exact q
  | _ => exact q
theorem addrs_setd (δ : List SD) (i : Nat) (x : D) : ∀ p, p ∈ addrs (δ.set i (.d x)) → p ∈ addrs δ := addrs_set_sub fun _ _ z => by cases z
theorem gdc {t : TGd} {u : TGsd} {x : D} {r : List D} {a : Bool} {δ : List SD} {Q : List SD → Prop} (h : t x a false δ fun δ' => (∀ p, p ∈ addrs δ' → p ∈ addrs δ) ∧ u r a δ' Q) : gdCons t u (x :: r) a δ Q := h
theorem gdn {a : Bool} {δ : List SD} {Q : List SD → Prop} (h : Q δ) : gdNil [] a δ Q := ⟨rfl, h⟩
theorem gd2 {i j : Nat} {x y : D} {a f : Bool} {δ : List SD} {Q : List SD → Prop} (hx : lf x = true) (hy : lf y = true) (q : Q ((δ.set i (.d x)).set j (.d y))) : gdTup 2 (gdCons (putD i) (gdCons (putD j) gdNil)) (.tuple [x, y]) a f δ Q :=
  ⟨rfl, gdc (putD_lf hx ⟨addrs_setd _ _ _, gdc (putD_lf hy ⟨addrs_setd _ _ _, gdn q⟩)⟩)⟩
theorem gd3 {i j k : Nat} {x y z : D} {a f : Bool} {δ : List SD} {Q : List SD → Prop} (hx : lf x = true) (hy : lf y = true) (hz : lf z = true) (q : Q (((δ.set i (.d x)).set j (.d y)).set k (.d z))) : gdTup 3 (gdCons (putD i) (gdCons (putD j) (gdCons (putD k) gdNil))) (.tuple [x, y, z]) a f δ Q :=
  ⟨rfl, gdc (putD_lf hx ⟨addrs_setd _ _ _, gdc (putD_lf hy ⟨addrs_setd _ _ _, gdc (putD_lf hz ⟨addrs_setd _ _ _, gdn q⟩)⟩)⟩)⟩
theorem gd3a {i j k : Nat} {x y z : D} {f : Bool} {δ : List SD} {Q : List SD → Prop} (hx : ∀ kv, x ≠ .dict kv) (hy : ∀ kv, y ≠ .dict kv) (hz : ∀ kv, z ≠ .dict kv) (q : Q (((δ.set i (.d x)).set j (.d y)).set k (.d z))) : gdTup 3 (gdCons (putD i) (gdCons (putD j) (gdCons (putD k) gdNil))) (.tuple [x, y, z]) true f δ Q :=
  ⟨rfl, gdc (putD_ap hx ⟨addrs_setd _ _ _, gdc (putD_ap hy ⟨addrs_setd _ _ _, gdc (putD_ap hz ⟨addrs_setd _ _ _, gdn q⟩)⟩)⟩)⟩
theorem gd5 {i j k l m : Nat} {x y z u v : D} {a f : Bool} {δ : List SD} {Q : List SD → Prop} (hx : lf x = true) (hy : lf y = true) (hz : lf z = true) (hu : lf u = true) (hv : lf v = true) (q : Q (((((δ.set i (.d x)).set j (.d y)).set k (.d z)).set l (.d u)).set m (.d v))) :
    gdTup 5 (gdCons (putD i) (gdCons (putD j) (gdCons (putD k) (gdCons (putD l) (gdCons (putD m) gdNil))))) (.tuple [x, y, z, u, v]) a f δ Q :=
  ⟨rfl, gdc (putD_lf hx ⟨addrs_setd _ _ _, gdc (putD_lf hy ⟨addrs_setd _ _ _, gdc (putD_lf hz ⟨addrs_setd _ _ _, gdc (putD_lf hu ⟨addrs_setd _ _ _, gdc (putD_lf hv ⟨addrs_setd _ _ _, gdn q⟩)⟩)⟩)⟩)⟩)⟩
theorem putD_own {i : Nat} {xs : List D} {a : Bool} {δ : List SD} {Q : List SD → Prop} (h : lfAll xs = true) (q : ∀ p, Q (δ.set i (.own p xs))) : putD i (.list xs) a true δ Q := by
  dsimp only [putD]
  rw [if_pos (by rw [h]; rfl)]
  exact fun p _ => q p
theorem cut_take {xs : List D} {k : Nat} : cutD xs none (some (k : Int)) = xs.take k := by
  unfold cutD
  rw [HT.sIx_none, HT.sIx_nat, List.drop_zero, Nat.sub_zero]
  rcases Nat.le_total k xs.length with h | h
  · rw [Nat.min_eq_left h]
  · rw [Nat.min_eq_right h, List.take_length, List.take_of_length_le h]
theorem cut_drop {xs : List D} {k : Nat} : cutD xs (some (k : Int)) none = xs.drop k := by
  unfold cutD
  rw [HT.sIx_none, HT.sIx_nat]
  rcases Nat.le_total k xs.length with h | h
  · rw [Nat.min_eq_left h, List.take_of_length_le (by rw [List.length_drop]; omega)]
  · rw [Nat.min_eq_right h, List.drop_length, List.drop_of_length_le h]; simp
theorem rg_mem {lo : Int} {n : Nat} {x : D} (h : x ∈ rgD lo n) : ∃ i, i < n ∧ x = .int (lo + (i : Int)) := by
  unfold rgD at h
  obtain ⟨i, hi, rfl⟩ := List.mem_map.mp h
  exact ⟨i, List.mem_range.mp hi, rfl⟩
end DL

set_option Elab.async false
set_option linter.all false
set_option maxRecDepth 100000
set_option maxHeartbeats 4000000
namespace DL
open PySem PySem.Spec PyProof.Rows L2
/-! ### walks over lists of a kind -/
theorem lcGo_fmT {α : Type} {g : TGd} {tt : TTd} {te : TEd} {δ : List SD} (e : α → D) (p : α → Bool) (f : α → D) (fa : Bool) : ∀ (xs : List α) (acc : List D) (a : Bool) (R : List D → Bool → Prop),
    (∀ x ∈ xs, ∀ (K1 : D → Bool → Prop) (K2 : Prop), (p x = true → K1 (f x) fa) → (p x = false → K2) → g (e x) true false δ fun δ2 => addrs δ2 = addrs δ ∧ tt δ2 fun b => if b = true then te δ2 fun y ya _ => K1 y ya else K2) →
    acc.length + xs.length ≤ sizeLine → (∀ a', (fa = true → a' = a) → R (acc ++ (xs.filter p).map f) a') → lcGo g tt te δ (xs.map e) acc a R
  | [], acc, a, R, _, _, hR => by
    have := hR a fun _ => rfl
    show R acc a
    simpa using this
  | x :: xs, acc, a, R, h, hl, hR => by
    have hl' : acc.length + 1 + xs.length ≤ sizeLine := by rw [List.length_cons] at hl; omega
    rw [List.map_cons]
    refine h x (by simp) (fun y ya => acc.length < sizeLine ∧ lcGo g tt te δ (xs.map e) (acc ++ [y]) (a && ya) R) (lcGo g tt te δ (xs.map e) acc a R) (fun hp => ⟨by omega, ?_⟩) fun hp => ?_
    · refine lcGo_fmT e p f fa xs _ _ R (fun z hz => h z (List.mem_cons_of_mem _ hz)) (by rw [List.length_append, List.length_singleton]; omega) fun a' ha => ?_
      have := hR a' fun z => by rw [ha z, z, Bool.and_true]
      simpa [List.filter_cons, hp] using this
    · refine lcGo_fmT e p f fa xs _ _ R (fun z hz => h z (List.mem_cons_of_mem _ hz)) (by omega) fun a' ha => ?_
      have := hR a' ha
      simpa [List.filter_cons, hp] using this
theorem lcGo_mapT {α : Type} {g : TGd} {te : TEd} {δ : List SD} (e : α → D) (f : α → D) (fa : Bool) (xs : List α) (R : List D → Bool → Prop)
    (h : ∀ x ∈ xs, ∀ K1 : D → Bool → Prop, K1 (f x) fa → g (e x) true false δ fun δ2 => addrs δ2 = addrs δ ∧ te δ2 fun y ya _ => K1 y ya) (hl : xs.length ≤ sizeLine) (hR : ∀ a', (fa = true → a' = true) → R (xs.map f) a') : lcGo g (fun _ R => R true) te δ (xs.map e) [] true R := by
  refine lcGo_fmT e (fun _ => true) f fa xs [] true R (fun x hx K1 K2 h1 h2 => ?_) (by simpa using hl) fun a' ha => ?_
  · have := h x hx K1 (h1 rfl)
    simpa using this
  · rw [show xs.filter (fun _ => true) = xs from List.filter_eq_self.mpr fun _ _ => rfl]
    simpa using hR a' ha
/-- draws: each turn gives one of a kind -/
theorem lcGo_draw {β : Type} {g : TGd} {te : TEd} {δ : List SD} (e : β → D) (W : β → Prop) (fa : Bool) : ∀ (xs : List D) (acc : List D) (a : Bool) (R : List D → Bool → Prop),
    (∀ x ∈ xs, ∀ K1 : D → Bool → Prop, (∀ y, W y → K1 (e y) fa) → g x true false δ fun δ2 => addrs δ2 = addrs δ ∧ te δ2 fun y ya _ => K1 y ya) →
    acc.length + xs.length ≤ sizeLine → (∀ (ys : List β) a', (∀ y ∈ ys, W y) → ys.length = xs.length → (fa = true → a' = a) → R (acc ++ ys.map e) a') → lcGo g (fun _ R => R true) te δ xs acc a R
  | [], acc, a, R, _, _, hR => by
    have := hR [] a (by simp) rfl fun _ => rfl
    show R acc a
    simpa using this
  | x :: xs, acc, a, R, h, hl, hR => by
    have hl' : acc.length + 1 + xs.length ≤ sizeLine := by rw [List.length_cons] at hl; omega
    have := h x (by simp) (fun y ya => acc.length < sizeLine ∧ lcGo g (fun _ R => R true) te δ xs (acc ++ [y]) (a && ya) R) fun y hy => ⟨by omega, by
      refine lcGo_draw e W fa xs _ _ R (fun z hz => h z (List.mem_cons_of_mem _ hz)) (by rw [List.length_append, List.length_singleton]; omega) fun ys a' hw hy' ha => ?_
      have := hR (y :: ys) a' (fun z hz => (List.mem_cons.mp hz).elim (fun e => by rw [e]; exact hy) (hw z)) (by simp [hy']) fun z => by rw [ha z, z, Bool.and_true]
      simpa using this⟩
    simpa [lcGo] using this
/-- places beside the things -/
def enT {α : Type} : Nat → List α → List (Nat × α)
  | _, [] => []
  | k, x :: xs => (k, x) :: enT (k + 1) xs
theorem enD_T {α : Type} (e : α → D) : ∀ (xs : List α) (k : Nat), enD k (xs.map e) = (enT k xs).map fun x => .tuple [.int (x.1 : Nat), e x.2]
  | [], _ => rfl
  | x :: xs, k => by
    rw [List.map_cons]
    unfold enD enT
    rw [enD_T e xs, List.map_cons]
theorem enT_len {α : Type} : ∀ (xs : List α) (k : Nat), (enT k xs).length = xs.length
  | [], _ => rfl
  | x :: xs, k => by unfold enT; simp [enT_len xs]
theorem enT_mem {α : Type} : ∀ {xs : List α} {k : Nat} {x : Nat × α}, x ∈ enT k xs → x.2 ∈ xs ∧ x.1 < k + xs.length
  | [], _, _, h => by simp [enT] at h
  | y :: ys, k, x, h => by
    unfold enT at h
    rcases List.mem_cons.mp h with h | h
    · subst h; exact ⟨by simp, by simp⟩
    · obtain ⟨h1, h2⟩ := enT_mem h
      exact ⟨List.mem_cons_of_mem _ h1, by rw [List.length_cons]; omega⟩
/-- tests of a list that is nothing -/
theorem tst_ne {i : Nat} {δ : List SD} {p : Addr} {xs : List D} {K : Bool → Prop} (h : δ[i]? = some (.own p xs)) (hk : K (!xs.isEmpty)) : tdB (tdBin (eqD true) (tdVar i) (tdLst tdNil)) δ K := by
  unfold tdB tdBin tdVar
  rw [h]
  refine ⟨le_line (by simp), min_nil _, ?_⟩
  rw [eqv_nil, Bool.true_xor]
  exact hk
/-- the first one, else none -/
theorem first_else {i : Nat} {δ : List SD} {p : Addr} {xs : List D} {R : D → Bool → Bool → Prop} {t : TEd} (h : δ[i]? = some (.own p xs)) (h0 : xs = [] → R .none true false) (h1 : ∀ y ys, xs = y :: ys → t δ R) :
    tdIf (tdB (tdBin (eqD true) (tdVar i) (tdLst tdNil))) t (tdC .none) δ R := by
  unfold tdIf
  refine tst_ne h ?_
  cases xs with
  | nil => exact h0 rfl
  | cons y ys => exact h1 y ys rfl
end DL

set_option Elab.async false
set_option linter.all false
set_option maxRecDepth 100000
set_option maxHeartbeats 4000000
namespace DL
open PySem PySem.Spec PyProof.Rows L2
/-! ### sets in told lists, step by step -/
theorem setZ {α : Type} (a : α) (l : List α) (b : α) : (a :: l).set 0 b = b :: l := by simp
theorem setS {α : Type} (a : α) (l : List α) (n : Nat) (b : α) : (a :: l).set (n + 1) b = a :: l.set n b := by simp
theorem tdSeqE (s u : TSd) (E : DEnds) (δ : List SD) : tdSeq s u E δ = s { nx := u E, ct := E.ct, bk := E.bk, rt := E.rt } δ := by
  have h : ∀ p : Prop, p = p := fun _ => rfl
  exact h _
/-! ### how much a text of data takes -/
structure Rz (b h : Nat) (d : D) : Prop where
  ok : d.showable = true
  sh : d.intsShort 13 = true
  bk : d.bulk ≤ b
  dp : d.depth ≤ h
structure RzL (b h : Nat) (ds : List D) : Prop where
  ok : PyData.showableAll ds = true
  sh : PyData.intsShortAll 13 ds = true
  bk : PyData.bulkAll ds ≤ b
  dp : PyData.depthAll ds ≤ h
theorem Rz.rep {b h : Nat} {d : D} {a : Bool} {R : D → Bool → Bool → Prop} (z : Rz b h d) (hb : b ≤ 1048576) (hh : h ≤ 60) (r : R (.str d.shown) true false) : reprD d a R :=
  ⟨z.ok, Nat.le_trans z.dp hh, fun c => PyData.shown_fits_bulk (B := 13) (by decide) (by decide) (PyData.leavesShort_of_canLay0 13 d c z.sh) (Nat.le_trans z.bk (by rw [show (2 : Nat) ^ 20 = 1048576 by decide]; exact hb)), r⟩
theorem Rz.mono {b h b' h' : Nat} {d : D} (z : Rz b h d) (hb : b ≤ b') (hh : h ≤ h') : Rz b' h' d := ⟨z.ok, z.sh, Nat.le_trans z.bk hb, Nat.le_trans z.dp hh⟩
theorem RzL.mono {b h b' h' : Nat} {d : List D} (z : RzL b h d) (hb : b ≤ b') (hh : h ≤ h') : RzL b' h' d := ⟨z.ok, z.sh, Nat.le_trans z.bk hb, Nat.le_trans z.dp hh⟩
theorem Rz.none : Rz 0 0 .none := ⟨rfl, rfl, Nat.le_refl _, Nat.le_refl _⟩
theorem Rz.bool (b : Bool) : Rz 0 0 (.bool b) := ⟨rfl, rfl, Nat.le_refl _, Nat.le_refl _⟩
theorem Rz.str {x : Str} {b : Nat} (h : x.length ≤ b) : Rz b 0 (.str x) := ⟨rfl, rfl, h, Nat.le_refl _⟩
theorem int_shown {i : Int} (h : i.natAbs < 1000000000000) : (PyData.shown (.int i)).length ≤ 13 := by
  have key : ∀ n : Nat, n < 1000000000000 → (toString n : String).length ≤ 12 := fun n hn => (Nat.length_repr_le_iff (n := n) (by decide : 0 < 12)).mpr (by simpa using hn)
  have e : ∀ s : String, (Str.ofString s).length = s.length := fun s => by
    rw [Str.ofString_eq_toList]
    show ((s.toList.map Char.toNat).toArray).size = _
    rw [List.size_toArray, List.length_map, String.length_toList]
  rw [PyData.shown_int]
  show (Str.ofString (toString i)).length ≤ 13
  rw [e]
  cases i with
  | ofNat n =>
    have := key n h
    exact Nat.le_trans this (by decide)
  | negSucc n =>
    have h' : n + 1 < 1000000000000 := h
    have := key (n + 1) h'
    show ("-" ++ toString (n + 1) : String).length ≤ 13
    rw [String.length_append]
    exact Nat.le_trans (Nat.add_le_add_left this 1) (by decide)
theorem Rz.int {i : Int} (h : i.natAbs < 1000000000000) : Rz 0 0 (.int i) := ⟨by
  show decide (i.natAbs.log2 < 1920) = true
  refine decide_eq_true ?_
  by_cases h0 : i.natAbs = 0
  · rw [h0]; decide
  · exact (Nat.log2_lt h0).mpr (Nat.lt_of_lt_of_le h (Nat.le_trans (show 1000000000000 ≤ 2 ^ 40 by decide) (Nat.pow_le_pow_right (by decide) (by decide)))), by
  show decide ((PyData.shown (.int i)).length ≤ 13) = true
  exact decide_eq_true (int_shown h), Nat.le_refl _, Nat.le_refl _⟩
theorem RzL.nil : RzL 0 0 [] := ⟨rfl, rfl, Nat.le_refl _, Nat.le_refl _⟩
theorem RzL.cons {b c h k : Nat} {d : D} {ds : List D} (z : Rz b h d) (y : RzL c k ds) : RzL (b + 1 + c) (max h k) (d :: ds) := ⟨by
  show (d.showable && PyData.showableAll ds) = true
  rw [z.ok, y.ok]; rfl, by
  show (d.intsShort 13 && PyData.intsShortAll 13 ds) = true
  rw [z.sh, y.sh]; rfl, by
  show d.bulk + 1 + PyData.bulkAll ds ≤ _
  have := z.bk; have := y.bk; omega, by
  show max d.depth (PyData.depthAll ds) ≤ _
  have := z.dp; have := y.dp; omega⟩
theorem RzL.tup {b h : Nat} {ds : List D} (z : RzL b h ds) : Rz b (h + 1) (.tuple ds) := ⟨z.ok, z.sh, z.bk, Nat.succ_le_succ z.dp⟩
theorem RzL.lst {b h : Nat} {ds : List D} (z : RzL b h ds) : Rz b (h + 1) (.list ds) := ⟨z.ok, z.sh, z.bk, Nat.succ_le_succ z.dp⟩
theorem RzL.all {b h : Nat} : ∀ {ds : List D} {n : Nat}, (∀ d ∈ ds, Rz b h d) → ds.length ≤ n → RzL (n * (b + 1)) h ds
  | [], n, _, _ => RzL.nil.mono (Nat.zero_le _) (Nat.zero_le _)
  | d :: ds, n, hd, hl => by
    cases n with
    | zero => cases hl
    | succ n =>
      have y : RzL (n * (b + 1)) h ds := RzL.all (fun x hx => hd x (List.mem_cons_of_mem _ hx)) (Nat.le_of_succ_le_succ hl)
      exact (RzL.cons (hd d (by simp)) y).mono (by rw [Nat.succ_mul]; omega) (by omega)
theorem RzL.map {α : Type} {b h n : Nat} {f : α → D} {xs : List α} (hd : ∀ x ∈ xs, Rz b h (f x)) (hl : xs.length ≤ n) : RzL (n * (b + 1)) h (xs.map f) :=
  RzL.all (fun d hm => by obtain ⟨x, hx, rfl⟩ := List.mem_map.mp hm; exact hd x hx) (by rw [List.length_map]; exact hl)
end DL

set_option Elab.async false
set_option linter.all false
set_option maxRecDepth 100000
set_option maxHeartbeats 4000000
namespace DL
open PySem PySem.Spec PyProof.Rows L2
/-! ### the end: what the top has left -/
theorem fun_ofD {K : PySem.W.Frag} {x : Str} {st : Stmt} {f : Addr} {fd : FuncData} (F : FunD K x x (defArgs st) (defBody st) (defScope st) [] [] f fd) : Fun K x x st f fd := by
  obtain ⟨oc, od, dV, kV, doc, pm, an, cdv, ct, osl, rfl, lk, hcd, hd, _⟩ := F.ex
  rcases hd with ⟨_, rfl⟩ | ⟨h, _⟩
  · exact ⟨⟨oc, od, kV, doc, pm, an, cdv, ct, osl, rfl, lk, hcd⟩, F.kp⟩
  · exact absurd rfl h
def dd (x : Str) (st : Stmt) : He.DefD := ⟨(x, none), x, x, defArgs st, defBody st, defScope st, [], []⟩
abbrev AlX : Type := He.AlD × Bool
def obsX (fa : List He.Fa) (fn : List He.DefD) (tb : List (Str × List Str)) (K : PySem.W.Frag) : AlX := (He.obsD fa fn K, tb.all fun t => He.tupB K t.1 (t.2.map He.Dv.str))
def SaysX (fa : List He.Fa) (fn : List He.DefD) (tb : List (Str × List Str)) (K : PySem.W.Frag) : Prop := obsX fa fn tb K = (He.valD fn, true)
def obsXG (n : Nat) (fa : List He.Fa) (fn : List He.DefD) (tb : List (Str × List Str)) (g : Addr → Option Obj) : AlX := obsX fa fn tb (He.frG g (He.asD g n))
def hookX (n : Nat) (fa : List He.Fa) (fn : List He.DefD) (tb : List (Str × List Str)) : PySem.W.Hook where
  α := AlX
  obs := fun s => obsXG n fa fn tb s.heap.get?
  val := fun _ => (He.valD fn, true)
  says := fun _ h => ∃ K : PySem.W.Frag, K.In h ∧ SaysX fa fn tb K
  of := fun _ _ e => ⟨_, He.frG_in, e⟩
  keeps := fun _ _ _ ⟨K, hK, c⟩ k => ⟨K, PySem.W.Frag.In.keeps hK k, c⟩
theorem obsXG_eq {n : Nat} {fa : List He.Fa} {fn : List He.DefD} {tb : List (Str × List Str)} {g : Addr → Option Obj} {s : Shared} (h : ∀ a, g a = s.heap.get? a) : obsXG n fa fn tb g = (hookX n fa fn tb).obs s := by
  have e : g = s.heap.get? := funext h
  rw [e] <;> rfl
section
variable {fa : List He.Fa} {fn : List He.DefD} {tb : List (Str × List Str)} {K : PySem.W.Frag} {h : Heap} {mg : Str → Option Value}
theorem SaysX.d (c : SaysX fa fn tb K) : He.SaysD fa fn K := congrArg (fun z : AlX => z.1) c
theorem SaysX.glo (c : SaysX fa fn tb K) (X : K.In h) (G : h.Ns mainGlobals mg) (i : Nat) {x : Str} (hi : fa[i]? = some (.glo x) := by rfl) : mg x = some (.ref (He.ga K x)) := He.glo_ok X G (c.d.fact i hi)
theorem SaysX.free (c : SaysX fa fn tb K) (X : K.In h) (G : h.Ns mainGlobals mg) (i : Nat) {x : Str} (hi : fa[i]? = some (.free x) := by rfl) : mg x = none := He.free_ok X G (c.d.fact i hi)
theorem SaysX.int (c : SaysX fa fn tb K) (X : K.In h) (G : h.Ns mainGlobals mg) (i : Nat) {x : Str} {z : Int} (hi : fa[i]? = some (.int x z) := by rfl) : GC K mg x (.int z) := by
  obtain ⟨t, m⟩ := He.int_ok X G (c.d.fact i hi)
  exact gc_int m
theorem SaysX.str (c : SaysX fa fn tb K) (X : K.In h) (G : h.Ns mainGlobals mg) (i : Nat) {x z : Str} (hz : sok z) (hi : fa[i]? = some (.str x z) := by rfl) : GC K mg x (.str z) := by
  obtain ⟨t, m⟩ := He.str_ok X G (c.d.fact i hi)
  exact gc_str m hz
theorem SaysX.tup (c : SaysX fa fn tb K) (X : K.In h) (G : h.Ns mainGlobals mg) (i j : Nat) {x : Str} {ys : List Str} (hz : ∀ y ∈ ys, sok y) (hi : fa[i]? = some (.glo x) := by rfl) (hj : tb[j]? = some (x, ys) := by rfl) : GC K mg x (.tuple (ys.map .str)) := by
  have m := c.glo X G i hi
  have h1 : (tb.all fun t => He.tupB K t.1 (t.2.map He.Dv.str)) = true := congrArg (fun z : AlX => z.2) c
  have h2 : He.tupB K x (ys.map He.Dv.str) = true := List.all_eq_true.mp h1 (x, ys) (List.mem_of_getElem? hj)
  refine ⟨_, .ref (He.ga K x), m, rfl, fun H => ?_⟩
  have h3 := He.tupB_ok h2 H
  have e : (ys.map He.Dv.str).map (He.Dv.v K) = ys.map V.str := by rw [List.map_map]; rfl
  rw [e] at h3
  exact .tup h3 (DqAll.of_strs hz)
theorem SaysX.fun_ (c : SaysX fa fn tb K) (j : Nat) {x : Str} {st : Stmt} (hj : fn[j]? = some (dd x st) := by rfl) : ∃ fd, Fun K x x st (He.ga K x) fd := by
  obtain ⟨fd, F⟩ := c.d.def_ j hj
  exact ⟨fd, fun_ofD F⟩
theorem SaysX.raw (c : SaysX fa fn tb K) (X : K.In h) (G : h.Ns mainGlobals mg) (i j : Nat) {x : Str} {st : Stmt} {ps : List Str} (hb : ∀ fd, Fun K x x st (He.ga K x) fd → Binds K fd ps []) (hi : fa[i]? = some (.glo x) := by rfl) (hj : fn[j]? = some (dd x st) := by rfl) : Raw K mg x st ps := by
  obtain ⟨fd, F⟩ := c.fun_ j hj
  exact ⟨_, fd, F, c.glo X G i hi, hb fd F⟩
end
/-- a law over a head by facts -/
theorem walk_ofX {l : PySem.W.OpenLaw} {n k : Nat} {q : Program} {loose : List Str} {XP : (Str → Option Value) → Heap → Prop} {YP : World → Heap → Prop} {d : DefRec} {x : Str}
    (hn : l.most = some n) (hn2 : n ≤ sizeLine) (hdf : d.params.defaults = []) (hr : Room k callerA)
    (F : ∀ (w : World) (mg : Str → Option Value) (fa : Addr) (h : Heap), YP w h → h.Ns mainGlobals mg → mg d.name = some (.ref fa) →
      ∃ (K : PySem.W.Frag) (fd : FuncData) (sp : Sp), K.In h ∧ (∀ (s : Shared) (u : Value), BindsTo s fd ⟨[u], []⟩ [(x, u)]) ∧
        (∀ (H : Hp) (a : Addr) (ns : List Int), ns.length ≤ n → (∀ z ∈ ns, Builtin.Int.intBits z ≤ 1048576) → Only H → SqL K H a (ns.map V.int) → sp [.ref a] H (fun v _ => v = .bl true) fun _ _ _ => False) ∧
        ∀ base : Heap, K.In base → base.Ns mainGlobals mg → FnD l.prog w K mg base CX0 k fa fd [x] sp) :
    PySem.W.WalkO q loose XP YP l.row.toRowW d [] (fun f vs => PySem.call f vs) := by
  refine Att.attach_callB hn hdf fun w s₀ s₁ mg mb fa o pm cd doc a vs ns G Y ho hd hcd hmg hobj hints hlen hbits hg => ?_
  obtain ⟨K, fd, sp, KX, hb, hsp, hF⟩ := F w mg fa _ Y G.T.g hmg
  exact law_callD KX G.T.g G.T.b G.T.builtins G.T.nolimit hg hobj hints (Nat.le_trans hlen hn2) hr hF hb (fun H hO hS => hsp H a ns hlen hbits hO hS) fun H e s' z => z
end DL

set_option Elab.async false
set_option linter.all false
set_option maxRecDepth 100000
set_option maxHeartbeats 4000000
namespace Lw
open PySem PySem.Spec PyProof.Rows L2 DL
abbrev dT (xs : List D) : D := .tuple xs
abbrev dS (s : Str) : D := .str s
abbrev dI (i : Int) : D := .int i
/-! ### the texts' things -/
inductive Cd | any | flag (s : Str) | not (a : Cd) | and (a b : Cd) | or (a b : Cd)
def Cd.enc : Cd → D
  | .any => dT [dS "any"]
  | .flag s => dT [dS "flag", dS s]
  | .not a => dT [dS "not", a.enc]
  | .and a b => dT [dS "and", a.enc, b.enc]
  | .or a b => dT [dS "or", a.enc, b.enc]
def Cd.size : Cd → Nat
  | .any | .flag _ => 1
  | .not a => a.size + 1
  | .and a b | .or a b => a.size + b.size + 1
def Cd.high : Cd → Nat
  | .any | .flag _ => 1
  | .not a => a.high + 1
  | .and a b | .or a b => max a.high b.high + 1
/-- all its flags -/
def Cd.flags : Cd → List Str
  | .any => []
  | .flag s => [s]
  | .not a => a.flags
  | .and a b | .or a b => a.flags ++ b.flags
inductive Dd | run (ts : List Str) | go (s : Str) | set (s : Str) | clear (s : Str)
def Dd.enc : Dd → D
  | .run ts => dT [dS "do", dT (ts.map dS)]
  | .go s => dT [dS "go", dS s]
  | .set s => dT [dS "set", dS s]
  | .clear s => dT [dS "clear", dS s]
structure Rl where
  on : Str
  c : Cd
  ds : List Dd
def Rl.enc (r : Rl) : D := dT [dS r.on, r.c.enc, dT (r.ds.map Dd.enc)]
structure Md where
  name : Str
  yes : Bool
  rules : List Rl
def Md.enc (m : Md) : D := dT [dS m.name, .bool m.yes, dT (m.rules.map Rl.enc)]
structure Pg where
  word : Str
  name : Str
  starts : List Str
  flags : List Str
  modes : List Md
def Pg.enc (p : Pg) : D := dT [dS p.word, dS p.name, dT (p.starts.map dS), dT (p.flags.map dS), dT (p.modes.map Md.enc)]
/-! ### bounds -/
def tk (s : Str) : Prop := s.length ≤ 12
def lt1 (s : Str) : Prop := s.cps.toList ≠ [] ∧ s.length ≤ 12
def Cd.ok (c : Cd) : Prop := c.size ≤ 60 ∧ c.high ≤ 7 ∧ ∀ s ∈ c.flags, tk s
def Dd.ok : Dd → Prop
  | .run ts => ts.length ≤ 20 ∧ ∀ s ∈ ts, lt1 s
  | .go s | .set s | .clear s => tk s
structure Rl.ok (r : Rl) : Prop where
  on : tk r.on
  c : r.c.ok
  n : r.ds.length ≤ 12
  ds : ∀ d ∈ r.ds, d.ok
structure Md.ok (m : Md) : Prop where
  name : tk m.name
  n : m.rules.length ≤ 12
  rules : ∀ r ∈ m.rules, r.ok
structure Pg.ok (p : Pg) : Prop where
  word : tk p.word
  name : tk p.name
  ns : p.starts.length ≤ 20
  starts : ∀ s ∈ p.starts, lt1 s
  nf : p.flags.length ≤ 8
  flags : ∀ s ∈ p.flags, tk s
  n0 : p.modes ≠ []
  n : p.modes.length ≤ 8
  modes : ∀ m ∈ p.modes, m.ok
/-! ### what is reckoned -/
def isU (s : Str) : Bool := decide (s.cps.toList.getLast? = some 45)
def base (s : Str) : Str := if isU s then ⟨s.cps.toList.dropLast.toArray⟩ else s
def fIx (p : Nat → Str → Bool) : Nat → List Str → Option Nat
  | _, [] => none
  | k, x :: xs => if p k x then some k else fIx p (k + 1) xs
def optD : Option D → D
  | none => .none
  | some d => d
def fault (pl : List D) (w : Str) : D := dT [dT pl, dS w]
def actF (acts row : List Str) (pl : List D) : Option D := (fIx (fun _ x => !decide (base x ∈ acts)) 0 row).map fun k => fault (pl ++ [dI k]) "act"
def twF (ss : List Str) : Option Nat := fIx (fun k x => decide (x ∈ ss.take k)) 0 ss
/-- the parts of a condition with their places -/
def parts : Cd → List D → List (List D × Cd)
  | .any, pl => [(pl, .any)]
  | .flag s, pl => [(pl, .flag s)]
  | .not a, pl => (pl, .not a) :: parts a (pl ++ [dI 1])
  | .and a b, pl => (pl, .and a b) :: (parts a (pl ++ [dI 1]) ++ parts b (pl ++ [dI 2]))
  | .or a b, pl => (pl, .or a b) :: (parts a (pl ++ [dI 1]) ++ parts b (pl ++ [dI 2]))
def encP (x : List D × Cd) : D := dT [dT x.1, x.2.enc]
def badF (fl : List Str) : Cd → Bool
  | .flag s => !decide (s ∈ fl)
  | _ => false
def cdF (fl : List Str) (c : Cd) (pl : List D) : Option D := ((parts c pl).filter fun x => badF fl x.2).head?.map fun x => fault (x.1 ++ [dI 1]) "flag"
inductive U | run | go | flag (s : Str)
deriving DecidableEq
def U.enc : U → D
  | .run => dT [dS "do"]
  | .go => dT [dS "go"]
  | .flag s => dT [dS "flag", dS s]
def Dd.u : Dd → U
  | .run _ => .run
  | .go _ => .go
  | .set s | .clear s => .flag s
def deedF (acts fl md : List Str) (d : Dd) (pl : List D) : Option D := match d with
  | .run ts => actF acts ts (pl ++ [dI 1])
  | .go s => if s ∈ md then none else some (fault (pl ++ [dI 1]) "mode")
  | .set s | .clear s => if s ∈ fl then none else some (fault (pl ++ [dI 1]) "flag")
def deedsGo (acts fl md : List Str) (pl : List D) : Nat → List U → List Dd → Option D
  | _, _, [] => none
  | k, met, d :: ds => match deedF acts fl md d (pl ++ [dI k]) with
    | some f => some f
    | none => if d.u ∈ met then some (fault (pl ++ [dI k]) "deeds") else deedsGo acts fl md pl (k + 1) (met ++ [d.u]) ds
def ruleF (names acts fl md : List Str) (r : Rl) (pl : List D) : Option D := if r.on ∈ names then (match cdF fl r.c (pl ++ [dI 1]) with
    | some f => some f
    | none => deedsGo acts fl md (pl ++ [dI 2]) 0 [] r.ds) else some (fault (pl ++ [dI 0]) "name")
def rulesGo (names acts fl md : List Str) (i : Nat) : Nat → List Rl → List D
  | _, [] => []
  | k, r :: rs => optD (ruleF names acts fl md r [dI 4, dI i, dI 2, dI k]) :: rulesGo names acts fl md i (k + 1) rs
def modesGo (names acts fl md : List Str) : Nat → List Md → List D
  | _, [] => []
  | i, m :: ms => rulesGo names acts fl md i 0 m.rules ++ modesGo names acts fl md (i + 1) ms
def progF (names acts : List Str) (p : Pg) : D := match actF acts p.starts [dI 2] with
  | some f => f
  | none => match twF p.flags with
    | some k => fault [dI 3, dI k] "twice"
    | none => match twF (p.modes.map (·.name)) with
      | some k => fault [dI 4, dI k, dI 0] "twice"
      | none => optD ((modesGo names acts p.flags (p.modes.map (·.name)) 0 p.modes).filter fun x => !isNone x).head?
/-- what stands first inmost -/
def post : Cd → List Cd
  | .any => [.any]
  | .flag s => [.flag s]
  | .not a => post a ++ [.not a]
  | .and a b => post a ++ post b ++ [.and a b]
  | .or a b => post a ++ post b ++ [.or a b]
def Cd.hd (fl : List Str) : Cd → Bool
  | .any => true
  | .flag s => decide (s ∈ fl)
  | .not a => !a.hd fl
  | .and a b => a.hd fl && b.hd fl
  | .or a b => a.hd fl || b.hd fl
def ruleOf (p : Pg) (m : Str) : Option (List Rl) := (p.modes.find? fun x => decide (x.name = m)).map (·.rules)
def fitOf (rs : List Rl) (fl : List Str) (nm : Str) : Option (List Dd) := (rs.find? fun r => decide (r.on = nm) && r.c.hd fl).map (·.ds)
/-- done, mode, flags behind deeds -/
def runD : List Dd → D × Str × List Str → D × Str × List Str
  | [], x => x
  | .run ts :: ds, (_, m, fl) => runD ds (dT (ts.map dS), m, fl)
  | .go s :: ds, (d, _, fl) => runD ds (d, s, fl)
  | .set s :: ds, (d, m, fl) => runD ds (d, m, fl ++ [s])
  | .clear s :: ds, (d, m, fl) => runD ds (d, m, fl.filter fun x => !decide (x = s))
def readF (p : Pg) (rs : List Rl) (m : Str) (fl : List Str) (nm : Str) : D := match fitOf rs fl nm with
  | none => .none
  | some ds => let x := runD ds (dT [], m, fl); dT [x.1, dT [dS x.2.1, dT ((p.flags.filter fun f => decide (f ∈ x.2.2)).map dS)]]
/-! ### the words -/
def g_first_named : DL.Spec := fun ds R => ∃ xs : List D, ds = [.list xs] ∧ lfAll xs = true ∧ xs.length ≤ 1000 ∧ R (optD (xs.filter fun x => !isNone x).head?) false
def g_is_act_told : DL.Spec := fun ds R => ∃ (acts : List Str) (s : Str), ds = [dT (acts.map dS), dS s] ∧ lt1 s ∧ R (.bool (decide (base s ∈ acts))) false
def g_wrong_act : DL.Spec := fun ds R => ∃ (acts row : List Str) (pl : List D), ds = [dT (acts.map dS), dT (row.map dS), dT pl] ∧ (∀ s ∈ row, lt1 s) ∧ lfAll pl = true ∧ row.length ≤ 100 ∧ pl.length ≤ 100 ∧ R (optD (actF acts row pl)) false
def g_first_twice : DL.Spec := fun ds R => ∃ (d : D) (ss : List Str), ds = [d] ∧ seqOf d = some (ss.map dS) ∧ ss.length ≤ 100 ∧ R (optD ((twF ss).map fun k : Nat => dI (k : Int))) false
def g_conditions_in : DL.Spec := fun ds R => ∃ (c : Cd) (pl : List D), ds = [c.enc, dT pl] ∧ lfAll pl = true ∧ pl.length ≤ 100 ∧ c.ok ∧ R (.list ((parts c pl).map encP)) true
def g_flags_looked_at : DL.Spec := fun ds R => ∃ c : Cd, ds = [c.enc] ∧ c.ok ∧ ∀ ys : List Str, ys.Perm (kd [] c.flags) → sortedS ys = true → R (dT (ys.map dS)) false
def g_wrong_condition : DL.Spec := fun ds R => ∃ (fl : List Str) (c : Cd) (pl : List D), ds = [dT (fl.map dS), c.enc, dT pl] ∧ lfAll pl = true ∧ pl.length ≤ 100 ∧ c.ok ∧ R (optD (cdF fl c pl)) false
def g_used_up : DL.Spec := fun ds R => ∃ d : Dd, ds = [d.enc] ∧ R d.u.enc false
def dTold (acts fl md : List Str) : D := dT [dT (acts.map dS), dT (fl.map dS), .list (md.map dS)]
def g_wrong_deed : DL.Spec := fun ds R => ∃ (acts fl md : List Str) (d : Dd) (pl : List D), ds = [dTold acts fl md, d.enc, dT pl] ∧ lfAll pl = true ∧ pl.length ≤ 90 ∧ d.ok ∧ R (optD (deedF acts fl md d pl)) false
def g_wrong_deeds : DL.Spec := fun ds R => ∃ (acts fl md : List Str) (d : List Dd) (pl : List D), ds = [dTold acts fl md, dT (d.map Dd.enc), dT pl] ∧ lfAll pl = true ∧ pl.length ≤ 80 ∧ (∀ x ∈ d, x.ok) ∧ d.length ≤ 12 ∧ R (optD (deedsGo acts fl md pl 0 [] d)) false
def g_wrong_rule : DL.Spec := fun ds R => ∃ (names acts fl md : List Str) (r : Rl) (pl : List D), ds = [dT (names.map dS), dTold acts fl md, r.enc, dT pl] ∧ lfAll pl = true ∧ pl.length ≤ 70 ∧ r.ok ∧ R (optD (ruleF names acts fl md r pl)) false
def g_wrong_program : DL.Spec := fun ds R => ∃ (names acts : List Str) (p : Pg), ds = [dT (names.map dS), dT (acts.map dS), p.enc] ∧ p.ok ∧ R (progF names acts p) false
def g_parts_inmost_first : DL.Spec := fun ds R => ∃ c : Cd, ds = [c.enc] ∧ c.ok ∧ R (.list ((post c).map Cd.enc)) true
def g_holds : DL.Spec := fun ds R => ∃ (c : Cd) (fl : List Str), ds = [c.enc, dT (fl.map dS)] ∧ c.ok ∧ R (.bool (c.hd fl)) false
def g_first_stand : DL.Spec := fun ds R => ∃ (p : Pg) (m : Md) (ms : List Md), ds = [p.enc] ∧ p.modes = m :: ms ∧ R (dT [dS m.name, dT []]) false
def g_rules_of : DL.Spec := fun ds R => ∃ (p : Pg) (m : Str) (rs : List Rl), ds = [p.enc, dS m] ∧ p.modes.length ≤ 100 ∧ ruleOf p m = some rs ∧ R (dT (rs.map Rl.enc)) false
def g_first_acts : DL.Spec := fun ds R => ∃ (p : Pg) (m nm : Str) (fl : List Str) (rs : List Rl), ds = [p.enc, dT [dS m, dT (fl.map dS)], dS nm] ∧ p.ok ∧ ruleOf p m = some rs ∧ R (optD ((fitOf rs fl nm).map fun d => dT (d.map Dd.enc))) false
def g_name_read : DL.Spec := fun ds R => ∃ (p : Pg) (m nm : Str) (fl : List Str) (rs : List Rl), ds = [p.enc, dT [dS m, dT (fl.map dS)], dS nm] ∧ p.ok ∧ fl.length ≤ 100 ∧ ruleOf p m = some rs ∧ R (readF p rs m fl nm) false
/-! ### the law's own -/
def okA (k : Nat) (y : Int) : Prop := y ≠ 0 ∧ y.natAbs ≤ k
def ltA (acts : List Str) (t : Str) : Prop := base t ∈ acts ∧ lt1 t
/-- acts whose names are plain -/
def plainA (acts : List Str) : Prop := ∀ a ∈ acts, a.cps.toList ≠ [] ∧ a.length ≤ 10 ∧ isU a = false
def g_law_of : DL.Spec := fun ds R => ∃ (d : D) (xs : List D), ds = [d] ∧ seqOf d = some xs ∧ xs ≠ [] ∧ xs.length ≤ 1000000 ∧ ∀ x ∈ xs, R x false
def g_law_net : DL.Spec := fun ds R => ∃ ns : List Int, ds = [.list (ns.map dI)] ∧ ns.length ≤ 100 ∧ ∀ ys : List Int, (∀ y ∈ ys, y ∈ ns) → ys.length ≤ ns.length → R (dT (ys.map dI)) false
def g_law_doing : DL.Spec := fun ds R => ∃ k most : Nat, ds = [dI k, dI most] ∧ 1 ≤ k ∧ k ≤ 3 ∧ most ≤ 20 ∧ ∀ ys : List Int, (∀ y ∈ ys, okA k y) → ys.length ≤ most → R (dT (ys.map dI)) false
def g_law_texts : DL.Spec := fun ds R => ∃ (acts : List Str) (ys : List Int), ds = [dT (acts.map dS), dT (ys.map dI)] ∧ plainA acts ∧ ys.length ≤ 100 ∧ (∀ y ∈ ys, okA acts.length y) ∧ ∀ ts : List Str, (∀ t ∈ ts, ltA acts t) → ts.length = ys.length → R (dT (ts.map dS)) false
def g_law_cancels : DL.Spec := fun ds R => ∃ (k : Nat) (ys : List Int), ds = [dI k, dT (ys.map dI)] ∧ 1 ≤ k ∧ k ≤ 3 ∧ ys.length ≤ 10 ∧ (∀ y ∈ ys, okA k y) ∧ ∀ zs : List Int, (∀ y ∈ zs, okA k y) → zs.length ≤ ys.length + 4 → R (dT (zs.map dI)) false
def g_law_condition (n : Nat) : DL.Spec := fun ds R => ∃ (fl : List Str) (deep : Nat), ds = [dT (fl.map dS), dI deep] ∧ deep < n ∧ n ≤ 10 ∧ fl.length ≤ 10 ∧ ∀ c : Cd, c.high ≤ deep + 1 → c.size + 1 ≤ 2 ^ (deep + 1) → (∀ s ∈ c.flags, s ∈ fl) → R c.enc false
def g_law_holds (n : Nat) : DL.Spec := fun ds R => ∃ (c : Cd) (fl : List Str), ds = [c.enc, dT (fl.map dS)] ∧ c.high ≤ n ∧ R (.bool (c.hd fl)) false
def g_law_parts (n : Nat) : DL.Spec := fun ds R => ∃ (c : Cd) (pl : List D), ds = [c.enc, dT pl] ∧ c.high ≤ n ∧ lfAll pl = true ∧ pl.length + c.high ≤ 200 ∧ c.size ≤ 1000 ∧ R (.list ((parts c pl).map encP)) true
/-- a deed that is right -/
def Dd.right (acts fl md : List Str) : Dd → Prop
  | .run ts => ts.length ≤ 16 ∧ ∀ t ∈ ts, ltA acts t
  | .go s => s ∈ md
  | .set s | .clear s => s ∈ fl
structure rightDs (acts fl md : List Str) (ds : List Dd) : Prop where
  each : ∀ d ∈ ds, d.right acts fl md
  nd : (ds.map Dd.u).Nodup
  n : ds.length ≤ 6
def g_law_deeds : DL.Spec := fun ds R => ∃ acts fl md : List Str, ds = [dT (acts.map dS), dT (fl.map dS), dT (md.map dS)] ∧ plainA acts ∧ 1 ≤ acts.length ∧ acts.length ≤ 3 ∧ fl ≠ [] ∧ fl.Nodup ∧ fl.length ≤ 10 ∧ md ≠ [] ∧ md.length ≤ 10 ∧ ∀ x : List Dd, rightDs acts fl md x → R (dT (x.map Dd.enc)) false
structure Rl.right (names acts fl md : List Str) (r : Rl) : Prop where
  on : r.on ∈ names
  c : ∀ s ∈ r.c.flags, s ∈ fl
  hc : r.c.high ≤ 3
  sc : r.c.size ≤ 7
  ds : rightDs acts fl md r.ds
structure Pg.right (names acts : List Str) (p : Pg) : Prop where
  word : tk p.word
  name : tk p.name
  ns : p.starts.length ≤ 10
  starts : ∀ s ∈ p.starts, ltA acts s
  fl : p.flags.Nodup
  nf : p.flags.length ≤ 3
  f0 : p.flags ≠ []
  ft : ∀ s ∈ p.flags, tk s
  md : (p.modes.map (·.name)).Nodup
  nm : p.modes.length ≤ 3
  m0 : p.modes ≠ []
  mt : ∀ m ∈ p.modes, tk m.name ∧ m.rules.length ≤ 9
  rules : ∀ m ∈ p.modes, ∀ r ∈ m.rules, r.right names acts p.flags (p.modes.map (·.name))
def g_law_flagged : DL.Spec := fun ds R => ∃ (names acts : List Str) (nm : Str), ds = [dT (names.map dS), dT (acts.map dS), dS nm] ∧ plainA acts ∧ 1 ≤ acts.length ∧ acts.length ≤ 3 ∧ (∀ s ∈ names, tk s) ∧ names.length ≤ 3 ∧ tk nm ∧ ∀ p : Pg, p.right names acts → R p.enc false
def g_law_read : DL.Spec := g_name_read
def g_law_flag_names : DL.Spec := g_flags_looked_at
def g_law_twice : DL.Spec := fun ds R => ∃ (d : D) (ss : List Str) (pl k : List D), ds = [d, dT pl, dT k] ∧ seqOf d = some (ss.map dS) ∧ ss.length ≤ 100 ∧ lfAll pl = true ∧ lfAll k = true ∧ pl.length ≤ 100 ∧ k.length ≤ 100 ∧ R (.list ((twF ss).map fun i : Nat => fault (pl ++ [dI (i : Int)] ++ k) "twice").toList) true
def g_law_acts_wrong : DL.Spec := fun ds R => ∃ (acts row : List Str) (pl : List D), ds = [dT (acts.map dS), dT (row.map dS), dT pl] ∧ (∀ s ∈ row, lt1 s) ∧ lfAll pl = true ∧ row.length ≤ 100 ∧ pl.length ≤ 100 ∧ R (.list (actF acts row pl).toList) true
def g_law_rule_wrong : DL.Spec := fun ds R => ∃ (names acts : List Str) (p : Pg) (r : Rl) (pl : List D), ds = [dT (names.map dS), dT (acts.map dS), p.enc, r.enc, dT pl] ∧ lfAll pl = true ∧ pl.length ≤ 60 ∧ p.ok ∧ r.ok ∧ R (.list (ruleF names acts p.flags (p.modes.map (·.name)) r pl).toList) true
def g_law_wrong : DL.Spec := g_wrong_program
/-- bounds that grow by bending -/
structure Pg.bd (n : Nat) (p : Pg) : Prop where
  word : tk p.word
  name : tk p.name
  ns : p.starts.length ≤ 10 + n
  starts : ∀ s ∈ p.starts, lt1 s
  nf : p.flags.length ≤ 3 + n
  ft : ∀ s ∈ p.flags, tk s
  nm : p.modes.length ≤ 3 + n
  m0 : p.modes ≠ []
  mt : ∀ m ∈ p.modes, tk m.name ∧ m.rules.length ≤ 9
  on : ∀ m ∈ p.modes, ∀ r ∈ m.rules, tk r.on
  c : ∀ m ∈ p.modes, ∀ r ∈ m.rules, r.c.high ≤ 3 + 2 * n ∧ r.c.size ≤ 7 + 4 * n ∧ ∀ s ∈ r.c.flags, tk s
  d : ∀ m ∈ p.modes, ∀ r ∈ m.rules, r.ds.length ≤ 6 + 2 * n ∧ ∀ d ∈ r.ds, d.ok
def g_law_bent : DL.Spec := fun ds R => ∃ (p : Pg) (n : Nat), ds = [p.enc] ∧ n ≤ 1 ∧ p.bd n ∧ p.flags ≠ [] ∧ ∀ p' : Pg, p'.bd (n + 1) → R p'.enc false
def lotsF (ss : List Str) : List (List Str) := ss.foldl (fun acc s => acc ++ acc.map fun l => l ++ [s]) [[]]
def g_law_lots : DL.Spec := fun ds R => ∃ ss : List Str, ds = [dT (ss.map dS)] ∧ ss.length ≤ 6 ∧ R (.list ((lotsF ss).map fun l => dT (l.map dS))) true
end Lw

namespace Lw
end Lw

set_option Elab.async false
set_option linter.all false
set_option maxRecDepth 100000
set_option maxHeartbeats 4000000
namespace Lw
open PySem PySem.Spec PyProof.Rows L2 DL
def top (i : Nat) : Stmt := PySem.Challenge.pw_homedoings_k05_flags_conditions_first_ru.main.body.getD i (.Pass ⟨0, 0, 0, 0⟩)
abbrev s_first_named : Stmt := top 1
abbrev N_first_named : List Str := ["some", "found", "one"]
abbrev p_first_named : List Str := ["some"]
theorem sc_first_named : FnScope N_first_named p_first_named (defScope s_first_named) := ⟨rfl, rfl, rfl, by decide +kernel, rfl, by decide +kernel, by decide +kernel⟩
abbrev s_is_act_told : Stmt := top 2
abbrev N_is_act_told : List Str := ["acts", "text"]
abbrev p_is_act_told : List Str := ["acts", "text"]
theorem sc_is_act_told : FnScope N_is_act_told p_is_act_told (defScope s_is_act_told) := ⟨rfl, rfl, rfl, by decide +kernel, rfl, by decide +kernel, by decide +kernel⟩
abbrev s_wrong_act : Stmt := top 3
abbrev N_wrong_act : List Str := ["acts", "row", "place", "some", "k", "text"]
abbrev p_wrong_act : List Str := ["acts", "row", "place"]
theorem sc_wrong_act : FnScope N_wrong_act p_wrong_act (defScope s_wrong_act) := ⟨rfl, rfl, rfl, by decide +kernel, rfl, by decide +kernel, by decide +kernel⟩
abbrev s_first_twice : Stmt := top 4
abbrev N_first_twice : List Str := ["names", "some", "k", "name"]
abbrev p_first_twice : List Str := ["names"]
theorem sc_first_twice : FnScope N_first_twice p_first_twice (defScope s_first_twice) := ⟨rfl, rfl, rfl, by decide +kernel, rfl, by decide +kernel, by decide +kernel⟩
abbrev s_conditions_in : Stmt := top 5
abbrev N_conditions_in : List Str := ["condition", "place", "found", "line", "here", "one", "late", "k"]
abbrev p_conditions_in : List Str := ["condition", "place"]
theorem sc_conditions_in : FnScope N_conditions_in p_conditions_in (defScope s_conditions_in) := ⟨rfl, rfl, rfl, by decide +kernel, rfl, by decide +kernel, by decide +kernel⟩
abbrev s_flags_looked_at : Stmt := top 6
abbrev N_flags_looked_at : List Str := ["condition", "some", "place", "one", "flag"]
abbrev p_flags_looked_at : List Str := ["condition"]
theorem sc_flags_looked_at : FnScope N_flags_looked_at p_flags_looked_at (defScope s_flags_looked_at) := ⟨rfl, rfl, rfl, by decide +kernel, rfl, by decide +kernel, by decide +kernel⟩
abbrev s_wrong_condition : Stmt := top 7
abbrev N_wrong_condition : List Str := ["flags", "condition", "place", "some", "here", "one"]
abbrev p_wrong_condition : List Str := ["flags", "condition", "place"]
theorem sc_wrong_condition : FnScope N_wrong_condition p_wrong_condition (defScope s_wrong_condition) := ⟨rfl, rfl, rfl, by decide +kernel, rfl, by decide +kernel, by decide +kernel⟩
abbrev s_used_up : Stmt := top 8
abbrev N_used_up : List Str := ["deed"]
abbrev p_used_up : List Str := ["deed"]
theorem sc_used_up : FnScope N_used_up p_used_up (defScope s_used_up) := ⟨rfl, rfl, rfl, by decide +kernel, rfl, by decide +kernel, by decide +kernel⟩
abbrev s_wrong_deed : Stmt := top 9
abbrev N_wrong_deed : List Str := ["told", "deed", "place", "acts", "flags", "modes"]
abbrev p_wrong_deed : List Str := ["told", "deed", "place"]
theorem sc_wrong_deed : FnScope N_wrong_deed p_wrong_deed (defScope s_wrong_deed) := ⟨rfl, rfl, rfl, by decide +kernel, rfl, by decide +kernel, by decide +kernel⟩
abbrev s_wrong_deeds : Stmt := top 10
abbrev N_wrong_deeds : List Str := ["told", "deeds", "place", "met", "k", "deed", "fault"]
abbrev p_wrong_deeds : List Str := ["told", "deeds", "place"]
theorem sc_wrong_deeds : FnScope N_wrong_deeds p_wrong_deeds (defScope s_wrong_deeds) := ⟨rfl, rfl, rfl, by decide +kernel, rfl, by decide +kernel, by decide +kernel⟩
abbrev s_wrong_rule : Stmt := top 11
abbrev N_wrong_rule : List Str := ["names", "told", "rule", "place", "name", "condition", "deeds", "fault"]
abbrev p_wrong_rule : List Str := ["names", "told", "rule", "place"]
theorem sc_wrong_rule : FnScope N_wrong_rule p_wrong_rule (defScope s_wrong_rule) := ⟨rfl, rfl, rfl, by decide +kernel, rfl, by decide +kernel, by decide +kernel⟩
abbrev s_wrong_program : Stmt := top 12
abbrev N_wrong_program : List Str := ["names", "acts", "program", "word", "name", "starts", "flags", "modes", "fault", "mode", "called", "told", "found", "i", "r", "rule"]
abbrev p_wrong_program : List Str := ["names", "acts", "program"]
theorem sc_wrong_program : FnScope N_wrong_program p_wrong_program (defScope s_wrong_program) := ⟨rfl, rfl, rfl, by decide +kernel, rfl, by decide +kernel, by decide +kernel⟩
abbrev s_parts_inmost_first : Stmt := top 15
abbrev N_parts_inmost_first : List Str := ["condition", "found", "line", "here"]
abbrev p_parts_inmost_first : List Str := ["condition"]
theorem sc_parts_inmost_first : FnScope N_parts_inmost_first p_parts_inmost_first (defScope s_parts_inmost_first) := ⟨rfl, rfl, rfl, by decide +kernel, rfl, by decide +kernel, by decide +kernel⟩
abbrev s_holds : Stmt := top 16
abbrev N_holds : List Str := ["condition", "flags", "told", "part", "other", "one"]
abbrev p_holds : List Str := ["condition", "flags"]
theorem sc_holds : FnScope N_holds p_holds (defScope s_holds) := ⟨rfl, rfl, rfl, by decide +kernel, rfl, by decide +kernel, by decide +kernel⟩
abbrev s_first_stand : Stmt := top 17
abbrev N_first_stand : List Str := ["program"]
abbrev p_first_stand : List Str := ["program"]
theorem sc_first_stand : FnScope N_first_stand p_first_stand (defScope s_first_stand) := ⟨rfl, rfl, rfl, by decide +kernel, rfl, by decide +kernel, by decide +kernel⟩
abbrev s_rules_of : Stmt := top 18
abbrev N_rules_of : List Str := ["program", "mode", "name", "is_yes", "rules"]
abbrev p_rules_of : List Str := ["program", "mode"]
theorem sc_rules_of : FnScope N_rules_of p_rules_of (defScope s_rules_of) := ⟨rfl, rfl, rfl, by decide +kernel, rfl, by decide +kernel, by decide +kernel⟩
abbrev s_first_acts : Stmt := top 19
abbrev N_first_acts : List Str := ["program", "stand", "name", "rules", "fits", "one", "condition", "acts"]
abbrev p_first_acts : List Str := ["program", "stand", "name"]
theorem sc_first_acts : FnScope N_first_acts p_first_acts (defScope s_first_acts) := ⟨rfl, rfl, rfl, by decide +kernel, rfl, by decide +kernel, by decide +kernel⟩
abbrev s_name_read : Stmt := top 20
abbrev N_name_read : List Str := ["program", "stand", "name", "acts", "done", "mode", "flags", "act", "flag"]
abbrev p_name_read : List Str := ["program", "stand", "name"]
theorem sc_name_read : FnScope N_name_read p_name_read (defScope s_name_read) := ⟨rfl, rfl, rfl, by decide +kernel, rfl, by decide +kernel, by decide +kernel⟩
abbrev s_law_source : Stmt := top 22
abbrev N_law_source : List Str := ["script", "mixed", "cell"]
abbrev p_law_source : List Str := ["script"]
theorem sc_law_source : FnScope N_law_source p_law_source (defScope s_law_source) := ⟨rfl, rfl, rfl, by decide +kernel, rfl, by decide +kernel, by decide +kernel⟩
abbrev s_law_pick : Stmt := top 23
abbrev N_law_pick : List Str := ["source", "many", "left", "mixed"]
abbrev p_law_pick : List Str := ["source", "many"]
theorem sc_law_pick : FnScope N_law_pick p_law_pick (defScope s_law_pick) := ⟨rfl, rfl, rfl, by decide +kernel, rfl, by decide +kernel, by decide +kernel⟩
abbrev s_law_of : Stmt := top 24
abbrev N_law_of : List Str := ["source", "some"]
abbrev p_law_of : List Str := ["source", "some"]
theorem sc_law_of : FnScope N_law_of p_law_of (defScope s_law_of) := ⟨rfl, rfl, rfl, by decide +kernel, rfl, by decide +kernel, by decide +kernel⟩
abbrev s_law_mixed : Stmt := top 25
abbrev N_law_mixed : List Str := ["source", "things", "rest", "lap"]
abbrev p_law_mixed : List Str := ["source", "things"]
theorem sc_law_mixed : FnScope N_law_mixed p_law_mixed (defScope s_law_mixed) := ⟨rfl, rfl, rfl, by decide +kernel, rfl, by decide +kernel, by decide +kernel⟩
abbrev s_law_net : Stmt := top 26
abbrev N_law_net : List Str := ["row", "found", "act"]
abbrev p_law_net : List Str := ["row"]
theorem sc_law_net : FnScope N_law_net p_law_net (defScope s_law_net) := ⟨rfl, rfl, rfl, by decide +kernel, rfl, by decide +kernel, by decide +kernel⟩
abbrev s_law_doing : Stmt := top 27
abbrev N_law_doing : List Str := ["source", "acts", "most", "signs", "lap"]
abbrev p_law_doing : List Str := ["source", "acts", "most"]
theorem sc_law_doing : FnScope N_law_doing p_law_doing (defScope s_law_doing) := ⟨rfl, rfl, rfl, by decide +kernel, rfl, by decide +kernel, by decide +kernel⟩
abbrev s_law_texts : Stmt := top 28
abbrev N_law_texts : List Str := ["acts", "doing", "act"]
abbrev p_law_texts : List Str := ["acts", "doing"]
theorem sc_law_texts : FnScope N_law_texts p_law_texts (defScope s_law_texts) := ⟨rfl, rfl, rfl, by decide +kernel, rfl, by decide +kernel, by decide +kernel⟩
abbrev s_law_cancels : Stmt := top 29
abbrev N_law_cancels : List Str := ["source", "acts", "doing", "lap", "k", "act"]
abbrev p_law_cancels : List Str := ["source", "acts", "doing"]
theorem sc_law_cancels : FnScope N_law_cancels p_law_cancels (defScope s_law_cancels) := ⟨rfl, rfl, rfl, by decide +kernel, rfl, by decide +kernel, by decide +kernel⟩
abbrev s_law_condition : Stmt := top 30
abbrev N_law_condition : List Str := ["source", "flags", "deep", "way", "parts", "side"]
abbrev p_law_condition : List Str := ["source", "flags", "deep"]
theorem sc_law_condition : FnScope N_law_condition p_law_condition (defScope s_law_condition) := ⟨rfl, rfl, rfl, by decide +kernel, rfl, by decide +kernel, by decide +kernel⟩
abbrev s_law_holds : Stmt := top 31
abbrev N_law_holds : List Str := ["condition", "flags", "told", "part"]
abbrev p_law_holds : List Str := ["condition", "flags"]
theorem sc_law_holds : FnScope N_law_holds p_law_holds (defScope s_law_holds) := ⟨rfl, rfl, rfl, by decide +kernel, rfl, by decide +kernel, by decide +kernel⟩
abbrev s_law_flagged : Stmt := top 32
abbrev N_law_flagged : List Str := ["source", "names", "acts", "name", "flags", "modes", "found", "mode", "rules", "one", "k", "starts"]
abbrev p_law_flagged : List Str := ["source", "names", "acts", "name"]
theorem sc_law_flagged : FnScope N_law_flagged p_law_flagged (defScope s_law_flagged) := ⟨rfl, rfl, rfl, by decide +kernel, rfl, by decide +kernel, by decide +kernel⟩
abbrev s_law_deeds : Stmt := top 33
abbrev N_law_deeds : List Str := ["source", "acts", "flags", "modes", "row", "some", "found", "deed"]
abbrev p_law_deeds : List Str := ["source", "acts", "flags", "modes"]
theorem sc_law_deeds : FnScope N_law_deeds p_law_deeds (defScope s_law_deeds) := ⟨rfl, rfl, rfl, by decide +kernel, rfl, by decide +kernel, by decide +kernel⟩
abbrev s_law_read : Stmt := top 34
abbrev N_law_read : List Str := ["program", "stand", "name", "mode", "rules", "fits", "done", "flags", "deed", "one", "condition", "deeds", "says", "flag"]
abbrev p_law_read : List Str := ["program", "stand", "name"]
theorem sc_law_read : FnScope N_law_read p_law_read (defScope s_law_read) := ⟨rfl, rfl, rfl, by decide +kernel, rfl, by decide +kernel, by decide +kernel⟩
abbrev s_law_parts : Stmt := top 35
abbrev N_law_parts : List Str := ["condition", "place", "found", "k"]
abbrev p_law_parts : List Str := ["condition", "place"]
theorem sc_law_parts : FnScope N_law_parts p_law_parts (defScope s_law_parts) := ⟨rfl, rfl, rfl, by decide +kernel, rfl, by decide +kernel, by decide +kernel⟩
abbrev s_law_flag_names : Stmt := top 36
abbrev N_law_flag_names : List Str := ["condition", "some", "place", "part", "flag"]
abbrev p_law_flag_names : List Str := ["condition"]
theorem sc_law_flag_names : FnScope N_law_flag_names p_law_flag_names (defScope s_law_flag_names) := ⟨rfl, rfl, rfl, by decide +kernel, rfl, by decide +kernel, by decide +kernel⟩
abbrev s_law_twice : Stmt := top 37
abbrev N_law_twice : List Str := ["some", "place", "k", "i", "one"]
abbrev p_law_twice : List Str := ["some", "place", "k"]
theorem sc_law_twice : FnScope N_law_twice p_law_twice (defScope s_law_twice) := ⟨rfl, rfl, rfl, by decide +kernel, rfl, by decide +kernel, by decide +kernel⟩
abbrev s_law_acts_wrong : Stmt := top 38
abbrev N_law_acts_wrong : List Str := ["acts", "row", "place", "k", "letter"]
abbrev p_law_acts_wrong : List Str := ["acts", "row", "place"]
theorem sc_law_acts_wrong : FnScope N_law_acts_wrong p_law_acts_wrong (defScope s_law_acts_wrong) := ⟨rfl, rfl, rfl, by decide +kernel, rfl, by decide +kernel, by decide +kernel⟩
abbrev s_law_rule_wrong : Stmt := top 39
abbrev N_law_rule_wrong : List Str := ["names", "acts", "program", "rule", "place", "found", "here", "part", "ahead", "k", "deed", "told", "sort", "mode"]
abbrev p_law_rule_wrong : List Str := ["names", "acts", "program", "rule", "place"]
theorem sc_law_rule_wrong : FnScope N_law_rule_wrong p_law_rule_wrong (defScope s_law_rule_wrong) := ⟨rfl, rfl, rfl, by decide +kernel, rfl, by decide +kernel, by decide +kernel⟩
abbrev s_law_wrong : Stmt := top 40
abbrev N_law_wrong : List Str := ["names", "acts", "program", "found", "mode", "i", "r", "rule"]
abbrev p_law_wrong : List Str := ["names", "acts", "program"]
theorem sc_law_wrong : FnScope N_law_wrong p_law_wrong (defScope s_law_wrong) := ⟨rfl, rfl, rfl, by decide +kernel, rfl, by decide +kernel, by decide +kernel⟩
abbrev s_law_bent : Stmt := top 41
abbrev N_law_bent : List Str := ["source", "program", "word", "name", "starts", "flags", "modes", "way", "i", "rules", "r", "on", "condition", "deeds", "odd", "mode"]
abbrev p_law_bent : List Str := ["source", "program"]
theorem sc_law_bent : FnScope N_law_bent p_law_bent (defScope s_law_bent) := ⟨rfl, rfl, rfl, by decide +kernel, rfl, by decide +kernel, by decide +kernel⟩
abbrev s_law_lots : Stmt := top 42
abbrev N_law_lots : List Str := ["some", "found", "one", "lot"]
abbrev p_law_lots : List Str := ["some"]
theorem sc_law_lots : FnScope N_law_lots p_law_lots (defScope s_law_lots) := ⟨rfl, rfl, rfl, by decide +kernel, rfl, by decide +kernel, by decide +kernel⟩
abbrev s_law : Stmt := top 43
abbrev N_law : List Str := ["script", "source", "lap", "names", "acts", "program", "kept", "lots", "turn", "condition", "lot", "told", "stand", "name", "late", "rule", "one", "mode"]
abbrev p_law : List Str := ["script"]
theorem sc_law : FnScope N_law p_law (defScope s_law) := ⟨rfl, rfl, rfl, by decide +kernel, rfl, by decide +kernel, by decide +kernel⟩
section
variable {P : Program} {w : World} {K : PySem.W.Frag} {mg : Str → Option Value} {base : Heap}
def t_first_named : TSd :=
  (tdSeq (tdSet 1 (tdLc (tdItVar 0) (putD 2) (tdB (tdBin (isN true) (tdVar 2) (tdC .none))) (tdVar 2) (([("one", 2)] : List (Str × Nat)).map (·.2))))
    (tdRet (tdIf (tdB (tdBin (eqD true) (tdVar 1) (tdLst tdNil))) (tdBin ixD (tdVar 1) (tdC (.int 0))) (tdC .none))))
theorem own_first_named (R : Raw K mg "first_named" s_first_named p_first_named)
    (len : ∀ ds R, g_first_named ds R → ds.length = p_first_named.length) (sem : ∀ ds R, g_first_named ds R → t_first_named { nx := fun _ => R .none false, rt := R } (startD N_first_named ds)) : Own P w K mg base 1 "first_named" p_first_named (spD K g_first_named) := by
  exact own_d (t := t_first_named) R sc_first_named len (fun f cdv A outer s H E G hr hG =>
    (dss_cons (ds_setLc 1 rfl sc_first_named.nd (sw_true rfl rfl rfl (by decide +kernel)) (blkOk_by (own := [("one", 2)]) (N := N_first_named) (sc := defScope s_first_named) (by decide +kernel)) (di_var 0) (fun _ _ _ _ _ _ => (dg_name 2 sc_first_named.nd)) (fun _ _ _ _ _ _ => (dts_one (dt_cmp od_isnot (nomark _) (de_var 2) de_non))) (fun _ _ _ _ _ _ => (de_var 2)))
    (dss_one (ds_ret (de_if (dt_cmp (od_ne hr.units) (nomark _) (de_var 1) (de_lst da_nil)) (de_ix (de_var 1) de_int) de_non))))) sem
def t_is_act_told : TSd :=
  (tdRet (tdBin (inD false) (tdIf (tdB (tdBin (eqD false) (tdBin ixD (tdVar 1) (tdNeg (tdC (.int 1)))) (tdC (.str "-")))) (tdSl (tdVar 1) tdO0 (tdO1 (tdNeg (tdC (.int 1))))) (tdVar 1)) (tdVar 0)))
theorem own_is_act_told (R : Raw K mg "is_act_told" s_is_act_told p_is_act_told)
    (len : ∀ ds R, g_is_act_told ds R → ds.length = p_is_act_told.length) (sem : ∀ ds R, g_is_act_told ds R → t_is_act_told { nx := fun _ => R .none false, rt := R } (startD N_is_act_told ds)) : Own P w K mg base 1 "is_act_told" p_is_act_told (spD K g_is_act_told) := by
  exact own_d (t := t_is_act_told) R sc_is_act_told len (fun f cdv A outer s H E G hr hG =>
    (dss_one (ds_ret (de_cmp (od_in (in_of hr)) (by rfl) (de_if (dt_cmp (od_eq hr.units) (nomark _) (de_ix (de_var 1) (de_neg de_int)) de_str) (de_sl (de_var 1) do_none (do_some (de_neg de_int))) (de_var 1)) (de_var 0))))) sem
def t_wrong_act : TSd :=
  (tdSeq (tdSet 3 (tdLc (tdEnum (tdVar 1)) (gdTup 2 (gdCons (putD 4) (gdCons (putD 5) gdNil))) (tdNot (tdB (tdCall (tdCons (tdVar 0) (tdCons (tdVar 5) tdNil)) g_is_act_told))) (tdTup (tdStar (tdVar 2) (tdCons (tdVar 4) tdNil))) (([("k", 4), ("text", 5)] : List (Str × Nat)).map (·.2))))
    (tdRet (tdIf (tdB (tdBin (eqD true) (tdVar 3) (tdLst tdNil))) (tdTup (tdCons (tdBin ixD (tdVar 3) (tdC (.int 0))) (tdCons (tdC (.str "act")) tdNil))) (tdC .none))))
theorem own_wrong_act (R : Raw K mg "wrong_act" s_wrong_act p_wrong_act) (O_is_act_told : Own P w K mg base 1 "is_act_told" p_is_act_told (spD K g_is_act_told)) (x_enumerate : mg "enumerate" = none)
    (len : ∀ ds R, g_wrong_act ds R → ds.length = p_wrong_act.length) (sem : ∀ ds R, g_wrong_act ds R → t_wrong_act { nx := fun _ => R .none false, rt := R } (startD N_wrong_act ds)) : Own P w K mg base 2 "wrong_act" p_wrong_act (spD K g_wrong_act) := by
  obtain ⟨f_is_act_told, fd_is_act_told, F_is_act_told, m_is_act_told, k_is_act_told, b_is_act_told⟩ := O_is_act_told.ex
  exact own_d (t := t_wrong_act) R sc_wrong_act len (fun f cdv A outer s H E G hr hG =>
    (dss_cons (ds_setLc 3 rfl sc_wrong_act.nd (sw_true rfl rfl rfl (by decide +kernel)) (blkOk_by (own := [("k", 4), ("text", 5)]) (N := N_wrong_act) (sc := defScope s_wrong_act) (by decide +kernel)) (di_enumerate x_enumerate (de_var 1)) (fun _ _ _ _ _ _ => (dg_tup rfl (dgs_cons (dg_name 4 sc_wrong_act.nd) (dgs_cons (dg_name 5 sc_wrong_act.nd) dgs_nil)))) (fun _ _ _ _ _ _ => (dts_one (dt_not (dt_val (de_call F_is_act_told (hr.mono (by decide)) hG m_is_act_told k_is_act_told b_is_act_told pass0 (da_cons (de_var 0) (da_cons (de_var 5) da_nil))))))) (fun _ _ _ _ _ _ => (de_tup (da_star (de_var 2) (da_cons (de_var 4) da_nil)))))
    (dss_one (ds_ret (de_if (dt_cmp (od_ne hr.units) (nomark _) (de_var 3) (de_lst da_nil)) (de_tup (da_cons (de_ix (de_var 3) de_int) (da_cons de_str da_nil))) de_non))))) sem
def t_first_twice : TSd :=
  (tdSeq (tdSet 1 (tdLc (tdEnum (tdVar 0)) (gdTup 2 (gdCons (putD 2) (gdCons (putD 3) gdNil))) (tdB (tdBin (inD false) (tdVar 3) (tdSl (tdVar 0) tdO0 (tdO1 (tdVar 2))))) (tdVar 2) (([("k", 2), ("name", 3)] : List (Str × Nat)).map (·.2))))
    (tdRet (tdIf (tdB (tdBin (eqD true) (tdVar 1) (tdLst tdNil))) (tdBin ixD (tdVar 1) (tdC (.int 0))) (tdC .none))))
theorem own_first_twice (R : Raw K mg "first_twice" s_first_twice p_first_twice) (x_enumerate : mg "enumerate" = none)
    (len : ∀ ds R, g_first_twice ds R → ds.length = p_first_twice.length) (sem : ∀ ds R, g_first_twice ds R → t_first_twice { nx := fun _ => R .none false, rt := R } (startD N_first_twice ds)) : Own P w K mg base 1 "first_twice" p_first_twice (spD K g_first_twice) := by
  exact own_d (t := t_first_twice) R sc_first_twice len (fun f cdv A outer s H E G hr hG =>
    (dss_cons (ds_setLc 1 rfl sc_first_twice.nd (sw_true rfl rfl rfl (by decide +kernel)) (blkOk_by (own := [("k", 2), ("name", 3)]) (N := N_first_twice) (sc := defScope s_first_twice) (by decide +kernel)) (di_enumerate x_enumerate (de_var 0)) (fun _ _ _ _ _ _ => (dg_tup rfl (dgs_cons (dg_name 2 sc_first_twice.nd) (dgs_cons (dg_name 3 sc_first_twice.nd) dgs_nil)))) (fun _ _ _ _ _ _ => (dts_one (dt_cmp (od_in (in_of hr)) (by rfl) (de_var 3) (de_sl (de_var 0) do_none (do_some (de_var 2)))))) (fun _ _ _ _ _ _ => (de_var 2)))
    (dss_one (ds_ret (de_if (dt_cmp (od_ne hr.units) (nomark _) (de_var 1) (de_lst da_nil)) (de_ix (de_var 1) de_int) de_non))))) sem
def t_conditions_in : TSd :=
  (tdSeq (tdPar 2 3 (tdLst tdNil) (tdLst (tdCons (tdTup (tdCons (tdVar 1) (tdCons (tdVar 0) tdNil))) tdNil)))
    (tdSeq (tdWhile (tdB (tdBin (eqD true) (tdVar 3) (tdLst tdNil))) (tdSeq (tdAsgPop (gdTup 2 (gdCons (putD 4) (gdCons (putD 5) gdNil))) 3)
    (tdSeq (tdAppend 2 (tdTup (tdCons (tdVar 4) (tdCons (tdVar 5) tdNil))))
    (tdIfS (tdB (tdBin (inD false) (tdBin ixD (tdVar 5) (tdC (.int 0))) (tdTup (tdCons (tdC (.str "not")) (tdCons (tdC (.str "and")) (tdCons (tdC (.str "or")) tdNil)))))) (tdSeq (tdSet 6 (tdLc (tdRg2 (tdC (.int 1)) (tdCB (tdCons (tdVar 5) tdNil) (c1 lenD))) (putD 7) (fun _ R => R true) (tdTup (tdCons (tdTup (tdStar (tdVar 4) (tdCons (tdVar 7) tdNil))) (tdCons (tdBin ixD (tdVar 5) (tdVar 7)) tdNil))) (([("k", 7)] : List (Str × Nat)).map (·.2))))
    (tdExtendA 3 (tdRev (tdVar 6)))) tdNext))))
    (tdRetVar 2)))
theorem own_conditions_in (R : Raw K mg "conditions_in" s_conditions_in p_conditions_in) (x_len : mg "len" = none) (x_range : mg "range" = none)
    (len : ∀ ds R, g_conditions_in ds R → ds.length = p_conditions_in.length) (sem : ∀ ds R, g_conditions_in ds R → t_conditions_in { nx := fun _ => R .none false, rt := R } (startD N_conditions_in ds)) : Own P w K mg base 1 "conditions_in" p_conditions_in (spD K g_conditions_in) := by
  exact own_d (t := t_conditions_in) R sc_conditions_in len (fun f cdv A outer s H E G hr hG =>
    (dss_cons (ds_par 2 3 rfl sc_conditions_in.nd (de_lst da_nil) (fun _ => (de_lst (da_cons (de_tup (da_cons (de_var 1) (da_cons (de_var 0) da_nil))) da_nil))))
    (dss_cons (ds_while PassesOwn.never (dt_cmp (od_ne hr.units) (nomark _) (de_var 3) (de_lst da_nil)) (dss_cons (ds_asgPop (pe_bm0 PySem.F.plainAttrs_list PySem.F.slot_list_pop PySem.F.type_list_pop mt_pop (pv 3)) (dg_tup rfl (dgs_cons (dg_name 4 sc_conditions_in.nd) (dgs_cons (dg_name 5 sc_conditions_in.nd) dgs_nil))))
    (dss_cons (ds_append (pe_bm PySem.F.plainAttrs_list PySem.F.slot_list_append PySem.F.type_list_append mt_append (pv 2) (pa_cons (DE.pe (de_tup (da_cons (de_var 4) (da_cons (de_var 5) da_nil)))) pa_nil)))
    (dss_one (ds_if (dt_cmp (od_in (in_of hr)) (by rfl) (de_ix (de_var 5) de_int) (de_tup (da_cons de_str (da_cons de_str (da_cons de_str da_nil))))) (dss_cons (ds_setLc 6 rfl sc_conditions_in.nd (sw_true rfl rfl rfl (by decide +kernel)) (blkOk_by (own := [("k", 7)]) (N := N_conditions_in) (sc := defScope s_conditions_in) (by decide +kernel)) (di_rg2 x_range de_int (de_callB cd_len x_len (by decide +kernel) (da_cons (de_var 5) da_nil))) (fun _ _ _ _ _ _ => (dg_name 7 sc_conditions_in.nd)) (fun _ _ _ _ _ _ => dts_nil) (fun _ _ _ _ _ _ => (de_tup (da_cons (de_tup (da_star (de_var 4) (da_cons (de_var 7) da_nil))) (da_cons (de_ix (de_var 5) (de_var 7)) da_nil)))))
    (dss_one (ds_extendA (pe_bm PySem.F.plainAttrs_list PySem.F.slot_list_extend PySem.F.type_list_extend mt_extendA (pv 3) (pa_cons (DE.pe (de_rev (de_var 6))) pa_nil))))) dss_nil)))))
    (dss_one (ds_retVar 2))))) sem
def t_flags_looked_at : TSd :=
  (tdSeq (tdSet 1 (tdLc (tdIt (tdCall (tdCons (tdVar 0) (tdCons (tdTup tdNil) tdNil)) g_conditions_in)) (gdTup 2 (gdCons (putD 2) (gdCons (putD 3) gdNil))) (tdB (tdBin (eqD false) (tdBin ixD (tdVar 3) (tdC (.int 0))) (tdC (.str "flag")))) (tdBin ixD (tdVar 3) (tdC (.int 1))) (([("place", 2), ("one", 3)] : List (Str × Nat)).map (·.2))))
    (tdRet (tdCB (tdCons (tdSortDict (tdLc (tdItVar 1) (putD 4) (fun _ R => R true) (tdTup (tdCons (tdVar 4) (tdCons (tdC (.bool true)) tdNil))) (([("flag", 4)] : List (Str × Nat)).map (·.2)))) tdNil) (c1 tupD))))
theorem own_flags_looked_at (R : Raw K mg "flags_looked_at" s_flags_looked_at p_flags_looked_at) (O_conditions_in : Own P w K mg base 1 "conditions_in" p_conditions_in (spD K g_conditions_in)) (x_dict : mg "dict" = none) (x_sorted : mg "sorted" = none) (x_tuple : mg "tuple" = none)
    (len : ∀ ds R, g_flags_looked_at ds R → ds.length = p_flags_looked_at.length) (sem : ∀ ds R, g_flags_looked_at ds R → t_flags_looked_at { nx := fun _ => R .none false, rt := R } (startD N_flags_looked_at ds)) : Own P w K mg base 2 "flags_looked_at" p_flags_looked_at (spD K g_flags_looked_at) := by
  obtain ⟨f_conditions_in, fd_conditions_in, F_conditions_in, m_conditions_in, k_conditions_in, b_conditions_in⟩ := O_conditions_in.ex
  exact own_d (t := t_flags_looked_at) R sc_flags_looked_at len (fun f cdv A outer s H E G hr hG =>
    (dss_cons (ds_setLc 1 rfl sc_flags_looked_at.nd (sw_true rfl rfl rfl (by decide +kernel)) (blkOk_by (own := [("place", 2), ("one", 3)]) (N := N_flags_looked_at) (sc := defScope s_flags_looked_at) (by decide +kernel)) (di_any (de_call F_conditions_in (hr.mono (by decide)) hG m_conditions_in k_conditions_in b_conditions_in pass0 (da_cons (de_var 0) (da_cons (de_tup da_nil) da_nil)))) (fun _ _ _ _ _ _ => (dg_tup rfl (dgs_cons (dg_name 2 sc_flags_looked_at.nd) (dgs_cons (dg_name 3 sc_flags_looked_at.nd) dgs_nil)))) (fun _ _ _ _ _ _ => (dts_one (dt_cmp (od_eq hr.units) (nomark _) (de_ix (de_var 3) de_int) de_str))) (fun _ _ _ _ _ _ => (de_ix (de_var 3) de_int)))
    (dss_one (ds_ret (de_callT cd_tup x_tuple (by decide +kernel) (da_cons (de_sortDict rfl x_sorted x_dict (de_lc rfl sc_flags_looked_at.nd (blkOk_by (own := [("flag", 4)]) (N := N_flags_looked_at) (sc := defScope s_flags_looked_at) (by decide +kernel)) (di_var 1) (fun _ _ _ _ _ _ => (dg_name 4 sc_flags_looked_at.nd)) (fun _ _ _ _ _ _ => dts_nil) (fun _ _ _ _ _ _ => (de_tup (da_cons (de_var 4) (da_cons de_bl da_nil)))))) da_nil)))))) sem
def t_wrong_condition : TSd :=
  (tdSeq (tdSet 3 (tdLc (tdIt (tdCall (tdCons (tdVar 1) (tdCons (tdVar 2) tdNil)) g_conditions_in)) (gdTup 2 (gdCons (putD 4) (gdCons (putD 5) gdNil))) (tdAnd (tdB (tdBin (eqD false) (tdBin ixD (tdVar 5) (tdC (.int 0))) (tdC (.str "flag")))) (tdB (tdBin (inD true) (tdBin ixD (tdVar 5) (tdC (.int 1))) (tdVar 0)))) (tdTup (tdStar (tdVar 4) (tdCons (tdC (.int 1)) tdNil))) (([("here", 4), ("one", 5)] : List (Str × Nat)).map (·.2))))
    (tdRet (tdIf (tdB (tdBin (eqD true) (tdVar 3) (tdLst tdNil))) (tdTup (tdCons (tdBin ixD (tdVar 3) (tdC (.int 0))) (tdCons (tdC (.str "flag")) tdNil))) (tdC .none))))
theorem own_wrong_condition (R : Raw K mg "wrong_condition" s_wrong_condition p_wrong_condition) (O_conditions_in : Own P w K mg base 1 "conditions_in" p_conditions_in (spD K g_conditions_in))
    (len : ∀ ds R, g_wrong_condition ds R → ds.length = p_wrong_condition.length) (sem : ∀ ds R, g_wrong_condition ds R → t_wrong_condition { nx := fun _ => R .none false, rt := R } (startD N_wrong_condition ds)) : Own P w K mg base 2 "wrong_condition" p_wrong_condition (spD K g_wrong_condition) := by
  obtain ⟨f_conditions_in, fd_conditions_in, F_conditions_in, m_conditions_in, k_conditions_in, b_conditions_in⟩ := O_conditions_in.ex
  exact own_d (t := t_wrong_condition) R sc_wrong_condition len (fun f cdv A outer s H E G hr hG =>
    (dss_cons (ds_setLc 3 rfl sc_wrong_condition.nd (sw_true rfl rfl rfl (by decide +kernel)) (blkOk_by (own := [("here", 4), ("one", 5)]) (N := N_wrong_condition) (sc := defScope s_wrong_condition) (by decide +kernel)) (di_any (de_call F_conditions_in (hr.mono (by decide)) hG m_conditions_in k_conditions_in b_conditions_in pass0 (da_cons (de_var 1) (da_cons (de_var 2) da_nil)))) (fun _ _ _ _ _ _ => (dg_tup rfl (dgs_cons (dg_name 4 sc_wrong_condition.nd) (dgs_cons (dg_name 5 sc_wrong_condition.nd) dgs_nil)))) (fun _ _ _ _ _ _ => (dts_one (dw_and (dt_cmp (od_eq hr.units) (nomark _) (de_ix (de_var 5) de_int) de_str) (dw_and1 (dt_cmp (od_notin (in_of hr)) (by rfl) (de_ix (de_var 5) de_int) (de_var 0)))).dt)) (fun _ _ _ _ _ _ => (de_tup (da_star (de_var 4) (da_cons de_int da_nil)))))
    (dss_one (ds_ret (de_if (dt_cmp (od_ne hr.units) (nomark _) (de_var 3) (de_lst da_nil)) (de_tup (da_cons (de_ix (de_var 3) de_int) (da_cons de_str da_nil))) de_non))))) sem
def t_used_up : TSd :=
  (tdRet (tdIf (tdB (tdBin (inD false) (tdBin ixD (tdVar 0) (tdC (.int 0))) (tdTup (tdCons (tdC (.str "do")) (tdCons (tdC (.str "go")) tdNil))))) (tdTup (tdCons (tdBin ixD (tdVar 0) (tdC (.int 0))) tdNil)) (tdTup (tdCons (tdC (.str "flag")) (tdCons (tdBin ixD (tdVar 0) (tdC (.int 1))) tdNil)))))
theorem own_used_up (R : Raw K mg "used_up" s_used_up p_used_up)
    (len : ∀ ds R, g_used_up ds R → ds.length = p_used_up.length) (sem : ∀ ds R, g_used_up ds R → t_used_up { nx := fun _ => R .none false, rt := R } (startD N_used_up ds)) : Own P w K mg base 1 "used_up" p_used_up (spD K g_used_up) := by
  exact own_d (t := t_used_up) R sc_used_up len (fun f cdv A outer s H E G hr hG =>
    (dss_one (ds_ret (de_if (dt_cmp (od_in (in_of hr)) (by rfl) (de_ix (de_var 0) de_int) (de_tup (da_cons de_str (da_cons de_str da_nil)))) (de_tup (da_cons (de_ix (de_var 0) de_int) da_nil)) (de_tup (da_cons de_str (da_cons (de_ix (de_var 0) de_int) da_nil))))))) sem
def t_wrong_deed : TSd :=
  (tdSeq (tdAsg (tdVar 0) (gdTup 3 (gdCons (putD 3) (gdCons (putD 4) (gdCons (putD 5) gdNil)))))
    (tdSeq (tdIfS (tdB (tdBin (eqD false) (tdBin ixD (tdVar 1) (tdC (.int 0))) (tdC (.str "do")))) (tdRet (tdCall (tdCons (tdVar 3) (tdCons (tdBin ixD (tdVar 1) (tdC (.int 1))) (tdCons (tdTup (tdStar (tdVar 2) (tdCons (tdC (.int 1)) tdNil))) tdNil))) g_wrong_act)) tdNext)
    (tdSeq (tdIfS (tdB (tdBin (eqD false) (tdBin ixD (tdVar 1) (tdC (.int 0))) (tdC (.str "go")))) (tdRet (tdIf (tdB (tdBin (inD false) (tdBin ixD (tdVar 1) (tdC (.int 1))) (tdVar 5))) (tdC .none) (tdTup (tdCons (tdTup (tdStar (tdVar 2) (tdCons (tdC (.int 1)) tdNil))) (tdCons (tdC (.str "mode")) tdNil))))) tdNext)
    (tdRet (tdIf (tdB (tdBin (inD false) (tdBin ixD (tdVar 1) (tdC (.int 1))) (tdVar 4))) (tdC .none) (tdTup (tdCons (tdTup (tdStar (tdVar 2) (tdCons (tdC (.int 1)) tdNil))) (tdCons (tdC (.str "flag")) tdNil))))))))
theorem own_wrong_deed (R : Raw K mg "wrong_deed" s_wrong_deed p_wrong_deed) (O_wrong_act : Own P w K mg base 2 "wrong_act" p_wrong_act (spD K g_wrong_act))
    (len : ∀ ds R, g_wrong_deed ds R → ds.length = p_wrong_deed.length) (sem : ∀ ds R, g_wrong_deed ds R → t_wrong_deed { nx := fun _ => R .none false, rt := R } (startD N_wrong_deed ds)) : Own P w K mg base 3 "wrong_deed" p_wrong_deed (spD K g_wrong_deed) := by
  obtain ⟨f_wrong_act, fd_wrong_act, F_wrong_act, m_wrong_act, k_wrong_act, b_wrong_act⟩ := O_wrong_act.ex
  exact own_d (t := t_wrong_deed) R sc_wrong_deed len (fun f cdv A outer s H E G hr hG =>
    (dss_cons (ds_asg (de_var 0) (dg_tup rfl (dgs_cons (dg_name 3 sc_wrong_deed.nd) (dgs_cons (dg_name 4 sc_wrong_deed.nd) (dgs_cons (dg_name 5 sc_wrong_deed.nd) dgs_nil)))))
    (dss_cons (ds_if (dt_cmp (od_eq hr.units) (nomark _) (de_ix (de_var 1) de_int) de_str) (dss_one (ds_ret (de_call F_wrong_act (hr.mono (by decide)) hG m_wrong_act k_wrong_act b_wrong_act pass0 (da_cons (de_var 3) (da_cons (de_ix (de_var 1) de_int) (da_cons (de_tup (da_star (de_var 2) (da_cons de_int da_nil))) da_nil)))))) dss_nil)
    (dss_cons (ds_if (dt_cmp (od_eq hr.units) (nomark _) (de_ix (de_var 1) de_int) de_str) (dss_one (ds_ret (de_if (dt_cmp (od_in (in_of hr)) (by rfl) (de_ix (de_var 1) de_int) (de_var 5)) de_non (de_tup (da_cons (de_tup (da_star (de_var 2) (da_cons de_int da_nil))) (da_cons de_str da_nil)))))) dss_nil)
    (dss_one (ds_ret (de_if (dt_cmp (od_in (in_of hr)) (by rfl) (de_ix (de_var 1) de_int) (de_var 4)) de_non (de_tup (da_cons (de_tup (da_star (de_var 2) (da_cons de_int da_nil))) (da_cons de_str da_nil)))))))))) sem
def t_wrong_deeds : TSd :=
  (tdSeq (tdSet 3 (tdLst tdNil))
    (tdSeq (tdFor (tdEnum (tdVar 1)) (gdTup 2 (gdCons (putD 4) (gdCons (putD 5) gdNil))) (tdSeq (tdSet 6 (tdCall (tdCons (tdVar 0) (tdCons (tdVar 5) (tdCons (tdTup (tdStar (tdVar 2) (tdCons (tdVar 4) tdNil))) tdNil))) g_wrong_deed))
    (tdSeq (tdIfS (tdB (tdBin (isN true) (tdVar 6) (tdC .none))) (tdRetVar 6) tdNext)
    (tdSeq (tdIfS (tdB (tdBin (inD false) (tdCall (tdCons (tdVar 5) tdNil) g_used_up) (tdVar 3))) (tdRet (tdTup (tdCons (tdTup (tdStar (tdVar 2) (tdCons (tdVar 4) tdNil))) (tdCons (tdC (.str "deeds")) tdNil)))) tdNext)
    (tdAppend 3 (tdCall (tdCons (tdVar 5) tdNil) g_used_up))))))
    (tdRet (tdC .none))))
theorem own_wrong_deeds (R : Raw K mg "wrong_deeds" s_wrong_deeds p_wrong_deeds) (O_used_up : Own P w K mg base 1 "used_up" p_used_up (spD K g_used_up)) (O_wrong_deed : Own P w K mg base 3 "wrong_deed" p_wrong_deed (spD K g_wrong_deed)) (x_enumerate : mg "enumerate" = none)
    (len : ∀ ds R, g_wrong_deeds ds R → ds.length = p_wrong_deeds.length) (sem : ∀ ds R, g_wrong_deeds ds R → t_wrong_deeds { nx := fun _ => R .none false, rt := R } (startD N_wrong_deeds ds)) : Own P w K mg base 4 "wrong_deeds" p_wrong_deeds (spD K g_wrong_deeds) := by
  obtain ⟨f_used_up, fd_used_up, F_used_up, m_used_up, k_used_up, b_used_up⟩ := O_used_up.ex
  obtain ⟨f_wrong_deed, fd_wrong_deed, F_wrong_deed, m_wrong_deed, k_wrong_deed, b_wrong_deed⟩ := O_wrong_deed.ex
  exact own_d (t := t_wrong_deeds) R sc_wrong_deeds len (fun f cdv A outer s H E G hr hG =>
    (dss_cons (ds_set 3 sc_wrong_deeds.nd (de_lst da_nil))
    (dss_cons (ds_for PassesOwn.never rfl (di_enumerate x_enumerate (de_var 1)) (fun _ => (dg_tup rfl (dgs_cons (dg_name 4 sc_wrong_deeds.nd) (dgs_cons (dg_name 5 sc_wrong_deeds.nd) dgs_nil)))) (fun _ => (dss_cons (ds_set 6 sc_wrong_deeds.nd (de_call F_wrong_deed (hr.mono (by decide)) hG m_wrong_deed k_wrong_deed b_wrong_deed pass0 (da_cons (de_var 0) (da_cons (de_var 5) (da_cons (de_tup (da_star (de_var 2) (da_cons (de_var 4) da_nil))) da_nil)))))
    (dss_cons (ds_if (dt_cmp od_isnot (nomark _) (de_var 6) de_non) (dss_one (ds_retVar 6)) dss_nil)
    (dss_cons (ds_if (dt_cmp (od_in (in_of hr)) (by rfl) (de_call F_used_up (hr.mono (by decide)) hG m_used_up k_used_up b_used_up pass0 (da_cons (de_var 5) da_nil)) (de_var 3)) (dss_one (ds_ret (de_tup (da_cons (de_tup (da_star (de_var 2) (da_cons (de_var 4) da_nil))) (da_cons de_str da_nil))))) dss_nil)
    (dss_one (ds_append (pe_bm PySem.F.plainAttrs_list PySem.F.slot_list_append PySem.F.type_list_append mt_append (pv 3) (pa_cons (DE.pe (de_call F_used_up (hr.mono (by decide)) hG m_used_up k_used_up b_used_up pass0 (da_cons (de_var 5) da_nil))) pa_nil)))))))))
    (dss_one (ds_ret de_non))))) sem
def t_wrong_rule : TSd :=
  (tdSeq (tdAsg (tdVar 2) (gdTup 3 (gdCons (putD 4) (gdCons (putD 5) (gdCons (putD 6) gdNil)))))
    (tdSeq (tdIfS (tdB (tdBin (inD true) (tdVar 4) (tdVar 0))) (tdRet (tdTup (tdCons (tdTup (tdStar (tdVar 3) (tdCons (tdC (.int 0)) tdNil))) (tdCons (tdC (.str "name")) tdNil)))) tdNext)
    (tdSeq (tdSet 7 (tdCall (tdCons (tdBin ixD (tdVar 1) (tdC (.int 1))) (tdCons (tdVar 5) (tdCons (tdTup (tdStar (tdVar 3) (tdCons (tdC (.int 1)) tdNil))) tdNil))) g_wrong_condition))
    (tdRet (tdIf (tdB (tdBin (isN true) (tdVar 7) (tdC .none))) (tdVar 7) (tdCall (tdCons (tdVar 1) (tdCons (tdVar 6) (tdCons (tdTup (tdStar (tdVar 3) (tdCons (tdC (.int 2)) tdNil))) tdNil))) g_wrong_deeds))))))
theorem own_wrong_rule (R : Raw K mg "wrong_rule" s_wrong_rule p_wrong_rule) (O_wrong_condition : Own P w K mg base 2 "wrong_condition" p_wrong_condition (spD K g_wrong_condition)) (O_wrong_deeds : Own P w K mg base 4 "wrong_deeds" p_wrong_deeds (spD K g_wrong_deeds))
    (len : ∀ ds R, g_wrong_rule ds R → ds.length = p_wrong_rule.length) (sem : ∀ ds R, g_wrong_rule ds R → t_wrong_rule { nx := fun _ => R .none false, rt := R } (startD N_wrong_rule ds)) : Own P w K mg base 5 "wrong_rule" p_wrong_rule (spD K g_wrong_rule) := by
  obtain ⟨f_wrong_condition, fd_wrong_condition, F_wrong_condition, m_wrong_condition, k_wrong_condition, b_wrong_condition⟩ := O_wrong_condition.ex
  obtain ⟨f_wrong_deeds, fd_wrong_deeds, F_wrong_deeds, m_wrong_deeds, k_wrong_deeds, b_wrong_deeds⟩ := O_wrong_deeds.ex
  exact own_d (t := t_wrong_rule) R sc_wrong_rule len (fun f cdv A outer s H E G hr hG =>
    (dss_cons (ds_asg (de_var 2) (dg_tup rfl (dgs_cons (dg_name 4 sc_wrong_rule.nd) (dgs_cons (dg_name 5 sc_wrong_rule.nd) (dgs_cons (dg_name 6 sc_wrong_rule.nd) dgs_nil)))))
    (dss_cons (ds_if (dt_cmp (od_notin (in_of hr)) (by rfl) (de_var 4) (de_var 0)) (dss_one (ds_ret (de_tup (da_cons (de_tup (da_star (de_var 3) (da_cons de_int da_nil))) (da_cons de_str da_nil))))) dss_nil)
    (dss_cons (ds_set 7 sc_wrong_rule.nd (de_call F_wrong_condition (hr.mono (by decide)) hG m_wrong_condition k_wrong_condition b_wrong_condition pass0 (da_cons (de_ix (de_var 1) de_int) (da_cons (de_var 5) (da_cons (de_tup (da_star (de_var 3) (da_cons de_int da_nil))) da_nil)))))
    (dss_one (ds_ret (de_if (dt_cmp od_isnot (nomark _) (de_var 7) de_non) (de_var 7) (de_call F_wrong_deeds (hr.mono (by decide)) hG m_wrong_deeds k_wrong_deeds b_wrong_deeds pass0 (da_cons (de_var 1) (da_cons (de_var 6) (da_cons (de_tup (da_star (de_var 3) (da_cons de_int da_nil))) da_nil))))))))))) sem
def t_wrong_program : TSd :=
  (tdSeq (tdAsg (tdVar 2) (gdTup 5 (gdCons (putD 3) (gdCons (putD 4) (gdCons (putD 5) (gdCons (putD 6) (gdCons (putD 7) gdNil)))))))
    (tdSeq (tdSet 8 (tdCall (tdCons (tdVar 1) (tdCons (tdVar 5) (tdCons (tdTup (tdCons (tdC (.int 2)) tdNil)) tdNil))) g_wrong_act))
    (tdSeq (tdIfS (tdB (tdBin (isN true) (tdVar 8) (tdC .none))) (tdRetVar 8) tdNext)
    (tdSeq (tdSet 10 (tdLc (tdItVar 7) (putD 9) (fun _ R => R true) (tdBin ixD (tdVar 9) (tdC (.int 0))) (([("mode", 9)] : List (Str × Nat)).map (·.2))))
    (tdSeq (tdIfS (tdB (tdBin (isN true) (tdCall (tdCons (tdVar 6) tdNil) g_first_twice) (tdC .none))) (tdRet (tdTup (tdCons (tdTup (tdCons (tdC (.int 3)) (tdCons (tdCall (tdCons (tdVar 6) tdNil) g_first_twice) tdNil))) (tdCons (tdC (.str "twice")) tdNil)))) tdNext)
    (tdSeq (tdIfS (tdB (tdBin (isN true) (tdCall (tdCons (tdVar 10) tdNil) g_first_twice) (tdC .none))) (tdRet (tdTup (tdCons (tdTup (tdCons (tdC (.int 4)) (tdCons (tdCall (tdCons (tdVar 10) tdNil) g_first_twice) (tdCons (tdC (.int 0)) tdNil)))) (tdCons (tdC (.str "twice")) tdNil)))) tdNext)
    (tdSeq (tdPar 11 12 (tdTup (tdCons (tdVar 1) (tdCons (tdVar 6) (tdCons (tdVar 10) tdNil)))) (tdLst tdNil))
    (tdSeq (tdFor (tdEnum (tdVar 7)) (gdTup 2 (gdCons (putD 13) (gdCons (putD 9) gdNil))) (tdExtendA 12 (tdLc (tdEnum (tdBin ixD (tdVar 9) (tdC (.int 2)))) (gdTup 2 (gdCons (putD 14) (gdCons (putD 15) gdNil))) (fun _ R => R true) (tdCall (tdCons (tdVar 0) (tdCons (tdVar 11) (tdCons (tdVar 15) (tdCons (tdTup (tdCons (tdC (.int 4)) (tdCons (tdVar 13) (tdCons (tdC (.int 2)) (tdCons (tdVar 14) tdNil))))) tdNil)))) g_wrong_rule) (([("r", 14), ("rule", 15)] : List (Str × Nat)).map (·.2)))))
    (tdRet (tdCall (tdCons (tdVar 12) tdNil) g_first_named))))))))))
theorem own_wrong_program (R : Raw K mg "wrong_program" s_wrong_program p_wrong_program) (O_first_named : Own P w K mg base 1 "first_named" p_first_named (spD K g_first_named)) (O_first_twice : Own P w K mg base 1 "first_twice" p_first_twice (spD K g_first_twice)) (O_wrong_act : Own P w K mg base 2 "wrong_act" p_wrong_act (spD K g_wrong_act)) (O_wrong_rule : Own P w K mg base 5 "wrong_rule" p_wrong_rule (spD K g_wrong_rule)) (x_enumerate : mg "enumerate" = none)
    (len : ∀ ds R, g_wrong_program ds R → ds.length = p_wrong_program.length) (sem : ∀ ds R, g_wrong_program ds R → t_wrong_program { nx := fun _ => R .none false, rt := R } (startD N_wrong_program ds)) : Own P w K mg base 6 "wrong_program" p_wrong_program (spD K g_wrong_program) := by
  obtain ⟨f_first_named, fd_first_named, F_first_named, m_first_named, k_first_named, b_first_named⟩ := O_first_named.ex
  obtain ⟨f_first_twice, fd_first_twice, F_first_twice, m_first_twice, k_first_twice, b_first_twice⟩ := O_first_twice.ex
  obtain ⟨f_wrong_act, fd_wrong_act, F_wrong_act, m_wrong_act, k_wrong_act, b_wrong_act⟩ := O_wrong_act.ex
  obtain ⟨f_wrong_rule, fd_wrong_rule, F_wrong_rule, m_wrong_rule, k_wrong_rule, b_wrong_rule⟩ := O_wrong_rule.ex
  exact own_d (t := t_wrong_program) R sc_wrong_program len (fun f cdv A outer s H E G hr hG =>
    (dss_cons (ds_asg (de_var 2) (dg_tup rfl (dgs_cons (dg_name 3 sc_wrong_program.nd) (dgs_cons (dg_name 4 sc_wrong_program.nd) (dgs_cons (dg_name 5 sc_wrong_program.nd) (dgs_cons (dg_name 6 sc_wrong_program.nd) (dgs_cons (dg_name 7 sc_wrong_program.nd) dgs_nil)))))))
    (dss_cons (ds_set 8 sc_wrong_program.nd (de_call F_wrong_act (hr.mono (by decide)) hG m_wrong_act k_wrong_act b_wrong_act pass0 (da_cons (de_var 1) (da_cons (de_var 5) (da_cons (de_tup (da_cons de_int da_nil)) da_nil)))))
    (dss_cons (ds_if (dt_cmp od_isnot (nomark _) (de_var 8) de_non) (dss_one (ds_retVar 8)) dss_nil)
    (dss_cons (ds_setLc 10 rfl sc_wrong_program.nd (sw_true rfl rfl rfl (by decide +kernel)) (blkOk_by (own := [("mode", 9)]) (N := N_wrong_program) (sc := defScope s_wrong_program) (by decide +kernel)) (di_var 7) (fun _ _ _ _ _ _ => (dg_name 9 sc_wrong_program.nd)) (fun _ _ _ _ _ _ => dts_nil) (fun _ _ _ _ _ _ => (de_ix (de_var 9) de_int)))
    (dss_cons (ds_if (dt_cmp od_isnot (nomark _) (de_call F_first_twice (hr.mono (by decide)) hG m_first_twice k_first_twice b_first_twice pass0 (da_cons (de_var 6) da_nil)) de_non) (dss_one (ds_ret (de_tup (da_cons (de_tup (da_cons de_int (da_cons (de_call F_first_twice (hr.mono (by decide)) hG m_first_twice k_first_twice b_first_twice pass0 (da_cons (de_var 6) da_nil)) da_nil))) (da_cons de_str da_nil))))) dss_nil)
    (dss_cons (ds_if (dt_cmp od_isnot (nomark _) (de_call F_first_twice (hr.mono (by decide)) hG m_first_twice k_first_twice b_first_twice pass0 (da_cons (de_var 10) da_nil)) de_non) (dss_one (ds_ret (de_tup (da_cons (de_tup (da_cons de_int (da_cons (de_call F_first_twice (hr.mono (by decide)) hG m_first_twice k_first_twice b_first_twice pass0 (da_cons (de_var 10) da_nil)) (da_cons de_int da_nil)))) (da_cons de_str da_nil))))) dss_nil)
    (dss_cons (ds_parC 11 12 rfl sc_wrong_program.nd (de_tup (da_cons (de_var 1) (da_cons (de_var 6) (da_cons (de_var 10) da_nil)))) (fun _ => (de_lst da_nil)))
    (dss_cons (ds_for PassesOwn.never rfl (di_enumerate x_enumerate (de_var 7)) (fun _ => (dg_tup rfl (dgs_cons (dg_name 13 sc_wrong_program.nd) (dgs_cons (dg_name 9 sc_wrong_program.nd) dgs_nil)))) (fun _ => (dss_one (ds_extendA (pe_bm PySem.F.plainAttrs_list PySem.F.slot_list_extend PySem.F.type_list_extend mt_extendA (pv 12) (pa_cons (DE.pe (de_lc rfl sc_wrong_program.nd (blkOk_by (own := [("r", 14), ("rule", 15)]) (N := N_wrong_program) (sc := defScope s_wrong_program) (by decide +kernel)) (di_enumerate x_enumerate (de_ix (de_var 9) de_int)) (fun _ _ _ _ _ _ => (dg_tup rfl (dgs_cons (dg_name 14 sc_wrong_program.nd) (dgs_cons (dg_name 15 sc_wrong_program.nd) dgs_nil)))) (fun _ _ _ _ _ _ => dts_nil) (fun _ _ _ _ _ _ => (de_call F_wrong_rule (hr.mono (by decide)) hG m_wrong_rule k_wrong_rule b_wrong_rule pass0 (da_cons (de_var 0) (da_cons (de_var 11) (da_cons (de_var 15) (da_cons (de_tup (da_cons de_int (da_cons (de_var 13) (da_cons de_int (da_cons (de_var 14) da_nil))))) da_nil)))))))) pa_nil))))))
    (dss_one (ds_ret (de_call F_first_named (hr.mono (by decide)) hG m_first_named k_first_named b_first_named pass0 (da_cons (de_var 12) da_nil))))))))))))) sem
def t_parts_inmost_first : TSd :=
  (tdSeq (tdPar 1 2 (tdLst tdNil) (tdLst (tdCons (tdVar 0) tdNil)))
    (tdSeq (tdWhile (tdB (tdBin (eqD true) (tdVar 2) (tdLst tdNil))) (tdSeq (tdAsgPop (putD 3) 2)
    (tdSeq (tdAppend 1 (tdVar 3))
    (tdIfS (tdB (tdBin (inD false) (tdBin ixD (tdVar 3) (tdC (.int 0))) (tdC (.tuple ((["not", "and", "or"] : List Str).map .str))))) (tdExtendA 2 (tdSl (tdVar 3) (tdO1 (tdC (.int 1))) tdO0)) tdNext))))
    (tdRet (tdRev (tdVar 1)))))
theorem own_parts_inmost_first (R : Raw K mg "parts_inmost_first" s_parts_inmost_first p_parts_inmost_first) (c_JOINED : GC K mg "JOINED" (.tuple ((["not", "and", "or"] : List Str).map .str)))
    (len : ∀ ds R, g_parts_inmost_first ds R → ds.length = p_parts_inmost_first.length) (sem : ∀ ds R, g_parts_inmost_first ds R → t_parts_inmost_first { nx := fun _ => R .none false, rt := R } (startD N_parts_inmost_first ds)) : Own P w K mg base 1 "parts_inmost_first" p_parts_inmost_first (spD K g_parts_inmost_first) := by
  exact own_d (t := t_parts_inmost_first) R sc_parts_inmost_first len (fun f cdv A outer s H E G hr hG =>
    (dss_cons (ds_par 1 2 rfl sc_parts_inmost_first.nd (de_lst da_nil) (fun _ => (de_lst (da_cons (de_var 0) da_nil))))
    (dss_cons (ds_while PassesOwn.never (dt_cmp (od_ne hr.units) (nomark _) (de_var 2) (de_lst da_nil)) (dss_cons (ds_asgPop (pe_bm0 PySem.F.plainAttrs_list PySem.F.slot_list_pop PySem.F.type_list_pop mt_pop (pv 2)) (dg_name 3 sc_parts_inmost_first.nd))
    (dss_cons (ds_append (pe_bm PySem.F.plainAttrs_list PySem.F.slot_list_append PySem.F.type_list_append mt_append (pv 1) (pa_cons (DE.pe (de_var 3)) pa_nil)))
    (dss_one (ds_if (dt_cmp (od_in (in_of hr)) (by rfl) (de_ix (de_var 3) de_int) (de_gc c_JOINED)) (dss_one (ds_extendA (pe_bm PySem.F.plainAttrs_list PySem.F.slot_list_extend PySem.F.type_list_extend mt_extendA (pv 2) (pa_cons (DE.pe (de_sl (de_var 3) (do_some de_int) do_none)) pa_nil)))) dss_nil)))))
    (dss_one (ds_ret (de_rev (de_var 1))))))) sem
def t_holds : TSd :=
  (tdSeq (tdSet 2 (tdLst tdNil))
    (tdSeq (tdFor (tdIt (tdCall (tdCons (tdVar 0) tdNil) g_parts_inmost_first)) (putD 3) (tdIfS (tdB (tdBin (eqD false) (tdBin ixD (tdVar 3) (tdC (.int 0))) (tdC (.str "any")))) (tdAppend 2 (tdC (.bool true))) (tdIfS (tdB (tdBin (eqD false) (tdBin ixD (tdVar 3) (tdC (.int 0))) (tdC (.str "flag")))) (tdAppend 2 (tdBin (inD false) (tdBin ixD (tdVar 3) (tdC (.int 1))) (tdVar 1))) (tdIfS (tdB (tdBin (eqD false) (tdBin ixD (tdVar 3) (tdC (.int 0))) (tdC (.str "not")))) (tdAppNotPop 2) (tdSeq (tdParPop 4 5 2)
    (tdAppend 2 (tdIf (tdB (tdBin (eqD false) (tdBin ixD (tdVar 3) (tdC (.int 0))) (tdC (.str "and")))) (tdAndV (tdVar 5) (tdVar 4)) (tdOrV (tdVar 5) (tdVar 4)))))))))
    (tdRet (tdBin ixD (tdVar 2) (tdC (.int 0))))))
theorem own_holds (R : Raw K mg "holds" s_holds p_holds) (O_parts_inmost_first : Own P w K mg base 1 "parts_inmost_first" p_parts_inmost_first (spD K g_parts_inmost_first))
    (len : ∀ ds R, g_holds ds R → ds.length = p_holds.length) (sem : ∀ ds R, g_holds ds R → t_holds { nx := fun _ => R .none false, rt := R } (startD N_holds ds)) : Own P w K mg base 2 "holds" p_holds (spD K g_holds) := by
  obtain ⟨f_parts_inmost_first, fd_parts_inmost_first, F_parts_inmost_first, m_parts_inmost_first, k_parts_inmost_first, b_parts_inmost_first⟩ := O_parts_inmost_first.ex
  exact own_d (t := t_holds) R sc_holds len (fun f cdv A outer s H E G hr hG =>
    (dss_cons (ds_set 2 sc_holds.nd (de_lst da_nil))
    (dss_cons (ds_for PassesOwn.never rfl (di_any (de_call F_parts_inmost_first (hr.mono (by decide)) hG m_parts_inmost_first k_parts_inmost_first b_parts_inmost_first pass0 (da_cons (de_var 0) da_nil))) (fun _ => (dg_name 3 sc_holds.nd)) (fun _ => (dss_one (ds_if (dt_cmp (od_eq hr.units) (nomark _) (de_ix (de_var 3) de_int) de_str) (dss_one (ds_append (pe_bm PySem.F.plainAttrs_list PySem.F.slot_list_append PySem.F.type_list_append mt_append (pv 2) (pa_cons (DE.pe de_bl) pa_nil)))) (dss_one (ds_if (dt_cmp (od_eq hr.units) (nomark _) (de_ix (de_var 3) de_int) de_str) (dss_one (ds_append (pe_bm PySem.F.plainAttrs_list PySem.F.slot_list_append PySem.F.type_list_append mt_append (pv 2) (pa_cons (DE.pe (de_cmp (od_in (in_of hr)) (by rfl) (de_ix (de_var 3) de_int) (de_var 1))) pa_nil)))) (dss_one (ds_if (dt_cmp (od_eq hr.units) (nomark _) (de_ix (de_var 3) de_int) de_str) (dss_one (ds_appNotPop (pe_bm PySem.F.plainAttrs_list PySem.F.slot_list_append PySem.F.type_list_append mt_append (pv 2) (pa_cons (pe_not (pe_bm0 PySem.F.plainAttrs_list PySem.F.slot_list_pop PySem.F.type_list_pop mt_pop (pv 2))) pa_nil)))) (dss_cons (ds_parPop 4 5 2 rfl sc_holds.nd (pe_bm0 PySem.F.plainAttrs_list PySem.F.slot_list_pop PySem.F.type_list_pop mt_pop (pv 2)) (pe_bm0 PySem.F.plainAttrs_list PySem.F.slot_list_pop PySem.F.type_list_pop mt_pop (pv 2)))
    (dss_one (ds_append (pe_bm PySem.F.plainAttrs_list PySem.F.slot_list_append PySem.F.type_list_append mt_append (pv 2) (pa_cons (DE.pe (de_if (dt_cmp (od_eq hr.units) (nomark _) (de_ix (de_var 3) de_int) de_str) (de_and (de_var 5) (de_one (de_var 4))) (de_or (de_var 5) (de_one (de_var 4))))) pa_nil)))))))))))))
    (dss_one (ds_ret (de_ix (de_var 2) de_int)))))) sem
def t_first_stand : TSd :=
  (tdRet (tdTup (tdCons (tdBin ixD (tdBin ixD (tdBin ixD (tdVar 0) (tdC (.int 4))) (tdC (.int 0))) (tdC (.int 0))) (tdCons (tdTup tdNil) tdNil))))
theorem own_first_stand (R : Raw K mg "first_stand" s_first_stand p_first_stand)
    (len : ∀ ds R, g_first_stand ds R → ds.length = p_first_stand.length) (sem : ∀ ds R, g_first_stand ds R → t_first_stand { nx := fun _ => R .none false, rt := R } (startD N_first_stand ds)) : Own P w K mg base 1 "first_stand" p_first_stand (spD K g_first_stand) := by
  exact own_d (t := t_first_stand) R sc_first_stand len (fun f cdv A outer s H E G hr hG =>
    (dss_one (ds_ret (de_tup (da_cons (de_ix (de_ix (de_ix (de_var 0) de_int) de_int) de_int) (da_cons (de_tup da_nil) da_nil)))))) sem
def t_rules_of : TSd :=
  (tdRet (tdBin ixD (tdLc (tdIt (tdBin ixD (tdVar 0) (tdNeg (tdC (.int 1))))) (gdTup 3 (gdCons (putD 2) (gdCons (putD 3) (gdCons (putD 4) gdNil)))) (tdB (tdBin (eqD false) (tdVar 2) (tdVar 1))) (tdVar 4) (([("name", 2), ("is_yes", 3), ("rules", 4)] : List (Str × Nat)).map (·.2))) (tdC (.int 0))))
theorem own_rules_of (R : Raw K mg "rules_of" s_rules_of p_rules_of)
    (len : ∀ ds R, g_rules_of ds R → ds.length = p_rules_of.length) (sem : ∀ ds R, g_rules_of ds R → t_rules_of { nx := fun _ => R .none false, rt := R } (startD N_rules_of ds)) : Own P w K mg base 1 "rules_of" p_rules_of (spD K g_rules_of) := by
  exact own_d (t := t_rules_of) R sc_rules_of len (fun f cdv A outer s H E G hr hG =>
    (dss_one (ds_ret (de_ix (de_lc rfl sc_rules_of.nd (blkOk_by (own := [("name", 2), ("is_yes", 3), ("rules", 4)]) (N := N_rules_of) (sc := defScope s_rules_of) (by decide +kernel)) (di_any (de_ix (de_var 0) (de_neg de_int))) (fun _ _ _ _ _ _ => (dg_tup rfl (dgs_cons (dg_name 2 sc_rules_of.nd) (dgs_cons (dg_name 3 sc_rules_of.nd) (dgs_cons (dg_name 4 sc_rules_of.nd) dgs_nil))))) (fun _ _ _ _ _ _ => (dts_one (dt_cmp (od_eq hr.units) (nomark _) (de_var 2) (de_var 1)))) (fun _ _ _ _ _ _ => (de_var 4))) de_int)))) sem
def t_first_acts : TSd :=
  (tdSeq (tdSet 3 (tdCall (tdCons (tdVar 0) (tdCons (tdBin ixD (tdVar 1) (tdC (.int 0))) tdNil)) g_rules_of))
    (tdSeq (tdSet 4 (tdLc (tdItVar 3) (gdTup 3 (gdCons (putD 5) (gdCons (putD 6) (gdCons (putD 7) gdNil)))) (tdAnd (tdB (tdBin (eqD false) (tdVar 5) (tdVar 2))) (tdB (tdCall (tdCons (tdVar 6) (tdCons (tdBin ixD (tdVar 1) (tdC (.int 1))) tdNil)) g_holds))) (tdVar 7) (([("one", 5), ("condition", 6), ("acts", 7)] : List (Str × Nat)).map (·.2))))
    (tdRet (tdIf (tdB (tdBin (eqD true) (tdVar 4) (tdLst tdNil))) (tdBin ixD (tdVar 4) (tdC (.int 0))) (tdC .none)))))
theorem own_first_acts (R : Raw K mg "first_acts" s_first_acts p_first_acts) (O_holds : Own P w K mg base 2 "holds" p_holds (spD K g_holds)) (O_rules_of : Own P w K mg base 1 "rules_of" p_rules_of (spD K g_rules_of))
    (len : ∀ ds R, g_first_acts ds R → ds.length = p_first_acts.length) (sem : ∀ ds R, g_first_acts ds R → t_first_acts { nx := fun _ => R .none false, rt := R } (startD N_first_acts ds)) : Own P w K mg base 3 "first_acts" p_first_acts (spD K g_first_acts) := by
  obtain ⟨f_holds, fd_holds, F_holds, m_holds, k_holds, b_holds⟩ := O_holds.ex
  obtain ⟨f_rules_of, fd_rules_of, F_rules_of, m_rules_of, k_rules_of, b_rules_of⟩ := O_rules_of.ex
  exact own_d (t := t_first_acts) R sc_first_acts len (fun f cdv A outer s H E G hr hG =>
    (dss_cons (ds_set 3 sc_first_acts.nd (de_call F_rules_of (hr.mono (by decide)) hG m_rules_of k_rules_of b_rules_of pass0 (da_cons (de_var 0) (da_cons (de_ix (de_var 1) de_int) da_nil))))
    (dss_cons (ds_setLc 4 rfl sc_first_acts.nd (sw_true rfl rfl rfl (by decide +kernel)) (blkOk_by (own := [("one", 5), ("condition", 6), ("acts", 7)]) (N := N_first_acts) (sc := defScope s_first_acts) (by decide +kernel)) (di_var 3) (fun _ _ _ _ _ _ => (dg_tup rfl (dgs_cons (dg_name 5 sc_first_acts.nd) (dgs_cons (dg_name 6 sc_first_acts.nd) (dgs_cons (dg_name 7 sc_first_acts.nd) dgs_nil))))) (fun _ _ _ _ _ _ => (dts_one (dw_and (dt_cmp (od_eq hr.units) (nomark _) (de_var 5) (de_var 2)) (dw_and1 (dt_val (de_call F_holds (hr.mono (by decide)) hG m_holds k_holds b_holds pass0 (da_cons (de_var 6) (da_cons (de_ix (de_var 1) de_int) da_nil)))))).dt)) (fun _ _ _ _ _ _ => (de_var 7)))
    (dss_one (ds_ret (de_if (dt_cmp (od_ne hr.units) (nomark _) (de_var 4) (de_lst da_nil)) (de_ix (de_var 4) de_int) de_non)))))) sem
def t_name_read : TSd :=
  (tdSeq (tdSet 3 (tdCall (tdCons (tdVar 0) (tdCons (tdVar 1) (tdCons (tdVar 2) tdNil))) g_first_acts))
    (tdSeq (tdIfS (tdB (tdBin (isN false) (tdVar 3) (tdC .none))) (tdRet (tdC .none)) tdNext)
    (tdSeq (tdAsg (tdTup (tdCons (tdTup tdNil) (tdCons (tdBin ixD (tdVar 1) (tdC (.int 0))) (tdCons (tdBin ixD (tdVar 1) (tdC (.int 1))) tdNil)))) (gdTup 3 (gdCons (putD 4) (gdCons (putD 5) (gdCons (putD 6) gdNil)))))
    (tdSeq (tdFor (tdItVar 3) (putD 7) (tdIfS (tdB (tdBin (eqD false) (tdBin ixD (tdVar 7) (tdC (.int 0))) (tdC (.str "do")))) (tdSet 4 (tdBin ixD (tdVar 7) (tdC (.int 1)))) (tdIfS (tdB (tdBin (eqD false) (tdBin ixD (tdVar 7) (tdC (.int 0))) (tdC (.str "go")))) (tdSet 5 (tdBin ixD (tdVar 7) (tdC (.int 1)))) (tdIfS (tdB (tdBin (eqD false) (tdBin ixD (tdVar 7) (tdC (.int 0))) (tdC (.str "set")))) (tdSet 6 (tdTup (tdStar (tdVar 6) (tdCons (tdBin ixD (tdVar 7) (tdC (.int 1))) tdNil)))) (tdSet 6 (tdCB (tdCons (tdLc (tdItVar 6) (putD 8) (tdB (tdBin (eqD true) (tdVar 8) (tdBin ixD (tdVar 7) (tdC (.int 1))))) (tdVar 8) (([("flag", 8)] : List (Str × Nat)).map (·.2))) tdNil) (c1 tupD)))))))
    (tdRet (tdTup (tdCons (tdVar 4) (tdCons (tdTup (tdCons (tdVar 5) (tdCons (tdCB (tdCons (tdLc (tdIt (tdBin ixD (tdVar 0) (tdC (.int 3)))) (putD 8) (tdB (tdBin (inD false) (tdVar 8) (tdVar 6))) (tdVar 8) (([("flag", 8)] : List (Str × Nat)).map (·.2))) tdNil) (c1 tupD)) tdNil))) tdNil))))))))
theorem own_name_read (R : Raw K mg "name_read" s_name_read p_name_read) (O_first_acts : Own P w K mg base 3 "first_acts" p_first_acts (spD K g_first_acts)) (x_tuple : mg "tuple" = none)
    (len : ∀ ds R, g_name_read ds R → ds.length = p_name_read.length) (sem : ∀ ds R, g_name_read ds R → t_name_read { nx := fun _ => R .none false, rt := R } (startD N_name_read ds)) : Own P w K mg base 4 "name_read" p_name_read (spD K g_name_read) := by
  obtain ⟨f_first_acts, fd_first_acts, F_first_acts, m_first_acts, k_first_acts, b_first_acts⟩ := O_first_acts.ex
  exact own_d (t := t_name_read) R sc_name_read len (fun f cdv A outer s H E G hr hG =>
    (dss_cons (ds_set 3 sc_name_read.nd (de_call F_first_acts (hr.mono (by decide)) hG m_first_acts k_first_acts b_first_acts pass0 (da_cons (de_var 0) (da_cons (de_var 1) (da_cons (de_var 2) da_nil)))))
    (dss_cons (ds_if (dt_cmp od_is (nomark _) (de_var 3) de_non) (dss_one (ds_ret de_non)) dss_nil)
    (dss_cons (ds_asg (de_tup (da_cons (de_tup da_nil) (da_cons (de_ix (de_var 1) de_int) (da_cons (de_ix (de_var 1) de_int) da_nil)))) (dg_tup rfl (dgs_cons (dg_name 4 sc_name_read.nd) (dgs_cons (dg_name 5 sc_name_read.nd) (dgs_cons (dg_name 6 sc_name_read.nd) dgs_nil)))))
    (dss_cons (ds_for PassesOwn.never rfl (di_var 3) (fun _ => (dg_name 7 sc_name_read.nd)) (fun _ => (dss_one (ds_if (dt_cmp (od_eq hr.units) (nomark _) (de_ix (de_var 7) de_int) de_str) (dss_one (ds_set 4 sc_name_read.nd (de_ix (de_var 7) de_int))) (dss_one (ds_if (dt_cmp (od_eq hr.units) (nomark _) (de_ix (de_var 7) de_int) de_str) (dss_one (ds_set 5 sc_name_read.nd (de_ix (de_var 7) de_int))) (dss_one (ds_if (dt_cmp (od_eq hr.units) (nomark _) (de_ix (de_var 7) de_int) de_str) (dss_one (ds_set 6 sc_name_read.nd (de_tup (da_star (de_var 6) (da_cons (de_ix (de_var 7) de_int) da_nil))))) (dss_one (ds_set 6 sc_name_read.nd (de_callT cd_tup x_tuple (by decide +kernel) (da_cons (de_lc rfl sc_name_read.nd (blkOk_by (own := [("flag", 8)]) (N := N_name_read) (sc := defScope s_name_read) (by decide +kernel)) (di_var 6) (fun _ _ _ _ _ _ => (dg_name 8 sc_name_read.nd)) (fun _ _ _ _ _ _ => (dts_one (dt_cmp (od_ne hr.units) (nomark _) (de_var 8) (de_ix (de_var 7) de_int)))) (fun _ _ _ _ _ _ => (de_var 8))) da_nil))))))))))))
    (dss_one (ds_ret (de_tup (da_cons (de_var 4) (da_cons (de_tup (da_cons (de_var 5) (da_cons (de_callT cd_tup x_tuple (by decide +kernel) (da_cons (de_lc rfl sc_name_read.nd (blkOk_by (own := [("flag", 8)]) (N := N_name_read) (sc := defScope s_name_read) (by decide +kernel)) (di_any (de_ix (de_var 0) de_int)) (fun _ _ _ _ _ _ => (dg_name 8 sc_name_read.nd)) (fun _ _ _ _ _ _ => (dts_one (dt_cmp (od_in (in_of hr)) (by rfl) (de_var 8) (de_var 6)))) (fun _ _ _ _ _ _ => (de_var 8))) da_nil)) da_nil))) da_nil)))))))))) sem
def t_law_of : TSd :=
  (tdRet (tdBin ixD (tdVar 1) (tdCallS 0 (tdCons (tdCB (tdCons (tdVar 1) tdNil) (c1 lenD)) tdNil) g_law_pick)))
theorem own_law_of (R : Raw K mg "_law_of" s_law_of p_law_of) (O_law_pick : Own P w K mg base 1 "_law_pick" ["source", "many"] (spS K g_law_pick)) (x_len : mg "len" = none)
    (len : ∀ ds R, g_law_of ds R → ds.length + 1 = p_law_of.length) (sem : ∀ ds R, g_law_of ds R → t_law_of { nx := fun _ => R .none false, rt := R } (startS N_law_of ds)) : Own P w K mg base 2 "_law_of" p_law_of (spS K g_law_of) := by
  obtain ⟨f_law_pick, fd_law_pick, F_law_pick, m_law_pick, k_law_pick, b_law_pick⟩ := O_law_pick.ex
  exact own_s (t := t_law_of) R sc_law_of len (fun f cdv A outer s H E G hr hG =>
    (dss_one (ds_ret (de_ix (de_var 1) (de_callS 0 F_law_pick (hr.mono (by decide)) hG m_law_pick k_law_pick b_law_pick pass0 (da_cons (de_callB cd_len x_len (by decide +kernel) (da_cons (de_var 1) da_nil)) da_nil)))))) sem
def t_law_net : TSd :=
  (tdSeq (tdSet 1 (tdTup tdNil))
    (tdSeq (tdFor (tdItVar 0) (putD 2) (tdSet 1 (tdIf (tdB (tdBin (eqD false) (tdSl (tdVar 1) (tdO1 (tdNeg (tdC (.int 1)))) tdO0) (tdTup (tdCons (tdBin subD (tdC (.int 0)) (tdVar 2)) tdNil)))) (tdSl (tdVar 1) tdO0 (tdO1 (tdNeg (tdC (.int 1))))) (tdBin addD (tdVar 1) (tdTup (tdCons (tdVar 2) tdNil))))))
    (tdRetVar 1)))
theorem own_law_net (R : Raw K mg "_law_net" s_law_net p_law_net)
    (len : ∀ ds R, g_law_net ds R → ds.length = p_law_net.length) (sem : ∀ ds R, g_law_net ds R → t_law_net { nx := fun _ => R .none false, rt := R } (startD N_law_net ds)) : Own P w K mg base 1 "_law_net" p_law_net (spD K g_law_net) := by
  exact own_d (t := t_law_net) R sc_law_net len (fun f cdv A outer s H E G hr hG =>
    (dss_cons (ds_set 1 sc_law_net.nd (de_tup da_nil))
    (dss_cons (ds_for PassesOwn.never rfl (di_var 0) (fun _ => (dg_name 2 sc_law_net.nd)) (fun _ => (dss_one (ds_set 1 sc_law_net.nd (de_if (dt_cmp (od_eq hr.units) (nomark _) (de_sl (de_var 1) (do_some (de_neg de_int)) do_none) (de_tup (da_cons (de_op od_sub de_int (de_var 2)) da_nil))) (de_sl (de_var 1) do_none (do_some (de_neg de_int))) (de_op od_add (de_var 1) (de_tup (da_cons (de_var 2) da_nil))))))))
    (dss_one (ds_retVar 1))))) sem
def t_law_doing : TSd :=
  (tdSeq (tdSet 3 (tdSl (tdLst (tdCons (tdC (.int 1)) (tdCons (tdNeg (tdC (.int 1))) (tdCons (tdC (.int 2)) (tdCons (tdNeg (tdC (.int 2))) (tdCons (tdC (.int 3)) (tdCons (tdNeg (tdC (.int 3))) tdNil))))))) tdO0 (tdO1 (tdBin mulD (tdC (.int 2)) (tdVar 1)))))
    (tdRet (tdCall (tdCons (tdLc (tdRg1 (tdCallS 0 (tdCons (tdBin addD (tdVar 2) (tdC (.int 1))) tdNil) g_law_pick)) (putD 4) (fun _ R => R true) (tdCallS 0 (tdCons (tdVar 3) tdNil) g_law_of) (([("lap", 4)] : List (Str × Nat)).map (·.2))) tdNil) g_law_net)))
theorem own_law_doing (R : Raw K mg "_law_doing" s_law_doing p_law_doing) (O_law_net : Own P w K mg base 1 "_law_net" p_law_net (spD K g_law_net)) (O_law_of : Own P w K mg base 2 "_law_of" p_law_of (spS K g_law_of)) (O_law_pick : Own P w K mg base 1 "_law_pick" ["source", "many"] (spS K g_law_pick)) (x_range : mg "range" = none)
    (len : ∀ ds R, g_law_doing ds R → ds.length + 1 = p_law_doing.length) (sem : ∀ ds R, g_law_doing ds R → t_law_doing { nx := fun _ => R .none false, rt := R } (startS N_law_doing ds)) : Own P w K mg base 3 "_law_doing" p_law_doing (spS K g_law_doing) := by
  obtain ⟨f_law_net, fd_law_net, F_law_net, m_law_net, k_law_net, b_law_net⟩ := O_law_net.ex
  obtain ⟨f_law_of, fd_law_of, F_law_of, m_law_of, k_law_of, b_law_of⟩ := O_law_of.ex
  obtain ⟨f_law_pick, fd_law_pick, F_law_pick, m_law_pick, k_law_pick, b_law_pick⟩ := O_law_pick.ex
  exact own_s (t := t_law_doing) R sc_law_doing len (fun f cdv A outer s H E G hr hG =>
    (dss_cons (ds_set 3 sc_law_doing.nd (de_sl (de_lst (da_cons de_int (da_cons (de_neg de_int) (da_cons de_int (da_cons (de_neg de_int) (da_cons de_int (da_cons (de_neg de_int) da_nil))))))) do_none (do_some (de_op od_mul de_int (de_var 1)))))
    (dss_one (ds_ret (de_call F_law_net (hr.mono (by decide)) hG m_law_net k_law_net b_law_net pass0 (da_cons (de_lc rfl sc_law_doing.nd (blkOk_by (own := [("lap", 4)]) (N := N_law_doing) (sc := defScope s_law_doing) (by decide +kernel)) (di_rg1 x_range (de_callS 0 F_law_pick (hr.mono (by decide)) hG m_law_pick k_law_pick b_law_pick pass0 (da_cons (de_op od_add (de_var 2) de_int) da_nil))) (fun _ _ _ _ _ _ => (dg_name 4 sc_law_doing.nd)) (fun _ _ _ _ _ _ => dts_nil) (fun _ _ _ _ _ _ => (de_callS 0 F_law_of (hr.mono (by decide)) hG m_law_of k_law_of b_law_of pass0 (da_cons (de_var 3) da_nil)))) da_nil)))))) sem
def t_law_texts : TSd :=
  (tdRet (tdCB (tdCons (tdLc (tdItVar 1) (putD 2) (fun _ R => R true) (tdIf (tdB (tdBin (gtD) (tdVar 2) (tdC (.int 0)))) (tdBin ixD (tdVar 0) (tdBin subD (tdVar 2) (tdC (.int 1)))) (tdBin addD (tdBin ixD (tdVar 0) (tdBin subD (tdBin subD (tdC (.int 0)) (tdVar 2)) (tdC (.int 1)))) (tdC (.str "-")))) (([("act", 2)] : List (Str × Nat)).map (·.2))) tdNil) (c1 tupD)))
theorem own_law_texts (R : Raw K mg "_law_texts" s_law_texts p_law_texts) (x_tuple : mg "tuple" = none)
    (len : ∀ ds R, g_law_texts ds R → ds.length = p_law_texts.length) (sem : ∀ ds R, g_law_texts ds R → t_law_texts { nx := fun _ => R .none false, rt := R } (startD N_law_texts ds)) : Own P w K mg base 1 "_law_texts" p_law_texts (spD K g_law_texts) := by
  exact own_d (t := t_law_texts) R sc_law_texts len (fun f cdv A outer s H E G hr hG =>
    (dss_one (ds_ret (de_callT cd_tup x_tuple (by decide +kernel) (da_cons (de_lc rfl sc_law_texts.nd (blkOk_by (own := [("act", 2)]) (N := N_law_texts) (sc := defScope s_law_texts) (by decide +kernel)) (di_var 1) (fun _ _ _ _ _ _ => (dg_name 2 sc_law_texts.nd)) (fun _ _ _ _ _ _ => dts_nil) (fun _ _ _ _ _ _ => (de_if (dt_cmp od_gt (nomark _) (de_var 2) de_int) (de_ix (de_var 0) (de_op od_sub (de_var 2) de_int)) (de_op od_add (de_ix (de_var 0) (de_op od_sub (de_op od_sub de_int (de_var 2)) de_int)) de_str)))) da_nil))))) sem
def t_law_cancels : TSd :=
  (tdSeq (tdFor (tdRg1 (tdCallS 0 (tdCons (tdLst (tdCons (tdC (.int 0)) (tdCons (tdC (.int 0)) (tdCons (tdC (.int 1)) (tdCons (tdC (.int 2)) tdNil))))) tdNil) g_law_of)) (putD 3) (tdSeq (tdPar 4 5 (tdCallS 0 (tdCons (tdBin addD (tdCB (tdCons (tdVar 2) tdNil) (c1 lenD)) (tdC (.int 1))) tdNil) g_law_pick) (tdCallS 0 (tdCons (tdSl (tdLst (tdCons (tdC (.int 1)) (tdCons (tdNeg (tdC (.int 1))) (tdCons (tdC (.int 2)) (tdCons (tdNeg (tdC (.int 2))) (tdCons (tdC (.int 3)) (tdCons (tdNeg (tdC (.int 3))) tdNil))))))) tdO0 (tdO1 (tdBin mulD (tdC (.int 2)) (tdVar 1)))) tdNil) g_law_of))
    (tdSet 2 (tdBin addD (tdBin addD (tdSl (tdVar 2) tdO0 (tdO1 (tdVar 4))) (tdTup (tdCons (tdVar 5) (tdCons (tdBin subD (tdC (.int 0)) (tdVar 5)) tdNil)))) (tdSl (tdVar 2) (tdO1 (tdVar 4)) tdO0)))))
    (tdRetVar 2))
theorem own_law_cancels (R : Raw K mg "_law_cancels" s_law_cancels p_law_cancels) (O_law_of : Own P w K mg base 2 "_law_of" p_law_of (spS K g_law_of)) (O_law_pick : Own P w K mg base 1 "_law_pick" ["source", "many"] (spS K g_law_pick)) (x_len : mg "len" = none) (x_range : mg "range" = none)
    (len : ∀ ds R, g_law_cancels ds R → ds.length + 1 = p_law_cancels.length) (sem : ∀ ds R, g_law_cancels ds R → t_law_cancels { nx := fun _ => R .none false, rt := R } (startS N_law_cancels ds)) : Own P w K mg base 3 "_law_cancels" p_law_cancels (spS K g_law_cancels) := by
  obtain ⟨f_law_of, fd_law_of, F_law_of, m_law_of, k_law_of, b_law_of⟩ := O_law_of.ex
  obtain ⟨f_law_pick, fd_law_pick, F_law_pick, m_law_pick, k_law_pick, b_law_pick⟩ := O_law_pick.ex
  exact own_s (t := t_law_cancels) R sc_law_cancels len (fun f cdv A outer s H E G hr hG =>
    (dss_cons (ds_for PassesOwn.never rfl (di_rg1 x_range (de_callS 0 F_law_of (hr.mono (by decide)) hG m_law_of k_law_of b_law_of pass0 (da_cons (de_lst (da_cons de_int (da_cons de_int (da_cons de_int (da_cons de_int da_nil))))) da_nil))) (fun _ => (dg_name 3 sc_law_cancels.nd)) (fun _ => (dss_cons (ds_par 4 5 rfl sc_law_cancels.nd (de_callS 0 F_law_pick (hr.mono (by decide)) hG m_law_pick k_law_pick b_law_pick pass0 (da_cons (de_op od_add (de_callB cd_len x_len (by decide +kernel) (da_cons (de_var 2) da_nil)) de_int) da_nil)) (fun _ => (de_callS 0 F_law_of (hr.mono (by decide)) hG m_law_of k_law_of b_law_of pass0 (da_cons (de_sl (de_lst (da_cons de_int (da_cons (de_neg de_int) (da_cons de_int (da_cons (de_neg de_int) (da_cons de_int (da_cons (de_neg de_int) da_nil))))))) do_none (do_some (de_op od_mul de_int (de_var 1)))) da_nil))))
    (dss_one (ds_set 2 sc_law_cancels.nd (de_op od_add (de_op od_add (de_sl (de_var 2) do_none (do_some (de_var 4))) (de_tup (da_cons (de_var 5) (da_cons (de_op od_sub de_int (de_var 5)) da_nil)))) (de_sl (de_var 2) (do_some (de_var 4)) do_none)))))))
    (dss_one (ds_retVar 2)))) sem
def t_law_condition (g_law_condition : DL.Spec) : TSd :=
  (tdSeq (tdSet 3 (tdCallS 0 (tdCons (tdC (.int 8)) tdNil) g_law_pick))
    (tdSeq (tdIfS (tdAnd (tdB (tdBin (gtD) (tdVar 2) (tdC (.int 0)))) (tdB (tdBin (ltD) (tdVar 3) (tdC (.int 4))))) (tdSeq (tdSet 4 (tdLc (tdRg1 (tdBin addD (tdC (.int 1)) (tdCB (tdCons (tdBin (gtD) (tdVar 3) (tdC (.int 1))) tdNil) (c1 intD)))) (putD 5) (fun _ R => R true) (tdCallS 0 (tdCons (tdVar 1) (tdCons (tdBin subD (tdVar 2) (tdC (.int 1))) tdNil)) g_law_condition) (([("side", 5)] : List (Str × Nat)).map (·.2))))
    (tdRet (tdBin addD (tdTup (tdCons (tdBin ixD (tdLst (tdCons (tdC (.str "not")) (tdCons (tdC (.str "not")) (tdCons (tdC (.str "and")) (tdCons (tdC (.str "or")) tdNil))))) (tdVar 3)) tdNil)) (tdCB (tdCons (tdVar 4) tdNil) (c1 tupD))))) tdNext)
    (tdSeq (tdIfS (tdOr (tdB (tdBin (eqD false) (tdVar 1) (tdTup tdNil))) (tdB (tdBin (eqD false) (tdVar 3) (tdC (.int 4))))) (tdRet (tdTup (tdCons (tdC (.str "any")) tdNil))) tdNext)
    (tdRet (tdTup (tdCons (tdC (.str "flag")) (tdCons (tdCallS 0 (tdCons (tdCB (tdCons (tdVar 1) tdNil) (c1 listD)) tdNil) g_law_of) tdNil)))))))
theorem own_law_condition {k : Nat} {g g' : DL.Spec} (hk : 2 ≤ k) (R : Raw K mg "_law_condition" s_law_condition p_law_condition) (O_law_condition : Own P w K mg base k "_law_condition" p_law_condition (spS K g)) (O_law_of : Own P w K mg base 2 "_law_of" p_law_of (spS K g_law_of)) (O_law_pick : Own P w K mg base 1 "_law_pick" ["source", "many"] (spS K g_law_pick)) (x_int : mg "int" = none) (x_list : mg "list" = none) (x_range : mg "range" = none) (x_tuple : mg "tuple" = none)
    (len : ∀ ds R, g' ds R → ds.length + 1 = p_law_condition.length) (sem : ∀ ds R, g' ds R → t_law_condition g { nx := fun _ => R .none false, rt := R } (startS N_law_condition ds)) : Own P w K mg base (k + 1) "_law_condition" p_law_condition (spS K g') := by
  obtain ⟨f_law_condition, fd_law_condition, F_law_condition, m_law_condition, k_law_condition, b_law_condition⟩ := O_law_condition.ex
  obtain ⟨f_law_of, fd_law_of, F_law_of, m_law_of, k_law_of, b_law_of⟩ := O_law_of.ex
  obtain ⟨f_law_pick, fd_law_pick, F_law_pick, m_law_pick, k_law_pick, b_law_pick⟩ := O_law_pick.ex
  exact own_s (t := t_law_condition g) R sc_law_condition len (fun f cdv A outer s H E G hr hG =>
    (dss_cons (ds_set 3 sc_law_condition.nd (de_callS 0 F_law_pick (hr.mono (Nat.le_trans (by decide) hk)) hG m_law_pick k_law_pick b_law_pick pass0 (da_cons de_int da_nil)))
    (dss_cons (ds_if (dw_and (dt_cmp od_gt (nomark _) (de_var 2) de_int) (dw_and1 (dt_cmp od_lt (nomark _) (de_var 3) de_int))).dt (dss_cons (ds_setLc 4 rfl sc_law_condition.nd (sw_true rfl rfl rfl (by decide +kernel)) (blkOk_by (own := [("side", 5)]) (N := N_law_condition) (sc := defScope s_law_condition) (by decide +kernel)) (di_rg1 x_range (de_op od_add de_int (de_callT cd_int x_int (by decide +kernel) (da_cons (de_cmp od_gt (nomark _) (de_var 3) de_int) da_nil)))) (fun _ _ _ _ _ _ => (dg_name 5 sc_law_condition.nd)) (fun _ _ _ _ _ _ => dts_nil) (fun _ _ _ _ _ _ => (de_callS 0 F_law_condition hr hG m_law_condition k_law_condition b_law_condition pass0 (da_cons (de_var 1) (da_cons (de_op od_sub (de_var 2) de_int) da_nil)))))
    (dss_one (ds_ret (de_op od_add (de_tup (da_cons (de_ix (de_lst (da_cons de_str (da_cons de_str (da_cons de_str (da_cons de_str da_nil))))) (de_var 3)) da_nil)) (de_callT cd_tup x_tuple (by decide +kernel) (da_cons (de_var 4) da_nil)))))) dss_nil)
    (dss_cons (ds_if (dw_or (dt_cmp (od_eq hr.units) (nomark _) (de_var 1) (de_tup da_nil)) (dw_or1 (dt_cmp (od_eq hr.units) (nomark _) (de_var 3) de_int))).dt (dss_one (ds_ret (de_tup (da_cons de_str da_nil)))) dss_nil)
    (dss_one (ds_ret (de_tup (da_cons de_str (da_cons (de_callS 0 F_law_of (hr.mono (Nat.le_trans (by decide) hk)) hG m_law_of k_law_of b_law_of pass0 (da_cons (de_callT cd_list x_list (by decide +kernel) (da_cons (de_var 1) da_nil)) da_nil)) da_nil))))))))) sem
def t_law_holds (g_law_holds : DL.Spec) : TSd :=
  (tdSeq (tdIfS (tdB (tdBin (eqD false) (tdBin ixD (tdVar 0) (tdC (.int 0))) (tdC (.str "any")))) (tdRet (tdC (.bool true))) tdNext)
    (tdSeq (tdIfS (tdB (tdBin (eqD false) (tdBin ixD (tdVar 0) (tdC (.int 0))) (tdC (.str "flag")))) (tdRet (tdBin (inD false) (tdBin ixD (tdVar 0) (tdC (.int 1))) (tdVar 1))) tdNext)
    (tdSeq (tdSet 2 (tdLc (tdIt (tdSl (tdVar 0) (tdO1 (tdC (.int 1))) tdO0)) (putD 3) (fun _ R => R true) (tdCall (tdCons (tdVar 3) (tdCons (tdVar 1) tdNil)) g_law_holds) (([("part", 3)] : List (Str × Nat)).map (·.2))))
    (tdSeq (tdIfS (tdB (tdBin (eqD false) (tdBin ixD (tdVar 0) (tdC (.int 0))) (tdC (.str "not")))) (tdRet (tdNotV (tdBin ixD (tdVar 2) (tdC (.int 0))))) tdNext)
    (tdRet (tdIf (tdB (tdBin (eqD false) (tdBin ixD (tdVar 0) (tdC (.int 0))) (tdC (.str "and")))) (tdBin (inD true) (tdC (.bool false)) (tdVar 2)) (tdBin (inD false) (tdC (.bool true)) (tdVar 2))))))))
theorem own_law_holds {k : Nat} {g g' : DL.Spec} (hk : 0 ≤ k) (R : Raw K mg "_law_holds" s_law_holds p_law_holds) (O_law_holds : Own P w K mg base k "_law_holds" p_law_holds (spD K g))
    (len : ∀ ds R, g' ds R → ds.length = p_law_holds.length) (sem : ∀ ds R, g' ds R → t_law_holds g { nx := fun _ => R .none false, rt := R } (startD N_law_holds ds)) : Own P w K mg base (k + 1) "_law_holds" p_law_holds (spD K g') := by
  obtain ⟨f_law_holds, fd_law_holds, F_law_holds, m_law_holds, k_law_holds, b_law_holds⟩ := O_law_holds.ex
  exact own_d (t := t_law_holds g) R sc_law_holds len (fun f cdv A outer s H E G hr hG =>
    (dss_cons (ds_if (dt_cmp (od_eq hr.units) (nomark _) (de_ix (de_var 0) de_int) de_str) (dss_one (ds_ret de_bl)) dss_nil)
    (dss_cons (ds_if (dt_cmp (od_eq hr.units) (nomark _) (de_ix (de_var 0) de_int) de_str) (dss_one (ds_ret (de_cmp (od_in (in_of hr)) (by rfl) (de_ix (de_var 0) de_int) (de_var 1)))) dss_nil)
    (dss_cons (ds_setLc 2 rfl sc_law_holds.nd (sw_true rfl rfl rfl (by decide +kernel)) (blkOk_by (own := [("part", 3)]) (N := N_law_holds) (sc := defScope s_law_holds) (by decide +kernel)) (di_any (de_sl (de_var 0) (do_some de_int) do_none)) (fun _ _ _ _ _ _ => (dg_name 3 sc_law_holds.nd)) (fun _ _ _ _ _ _ => dts_nil) (fun _ _ _ _ _ _ => (de_call F_law_holds hr hG m_law_holds k_law_holds b_law_holds pass0 (da_cons (de_var 3) (da_cons (de_var 1) da_nil)))))
    (dss_cons (ds_if (dt_cmp (od_eq hr.units) (nomark _) (de_ix (de_var 0) de_int) de_str) (dss_one (ds_ret (de_not (de_ix (de_var 2) de_int)))) dss_nil)
    (dss_one (ds_ret (de_if (dt_cmp (od_eq hr.units) (nomark _) (de_ix (de_var 0) de_int) de_str) (de_cmp (od_notin (in_of hr)) (by rfl) de_bl (de_var 2)) (de_cmp (od_in (in_of hr)) (by rfl) de_bl (de_var 2)))))))))) sem
def t_law_deeds : TSd :=
  (tdSeq (tdPar 4 5 (tdCallS 0 (tdCons (tdCB (tdCons (tdVar 1) tdNil) (c1 lenD)) (tdCons (tdCallS 0 (tdCons (tdCB (tdCons (tdVar 1) tdNil) (c1 lenD)) (tdCons (tdC (.int 2)) tdNil)) g_law_doing) tdNil)) g_law_cancels) (tdCallS 0 (tdCons (tdCB (tdCons (tdVar 2) tdNil) (c1 listD)) tdNil) g_law_mixed))
    (tdSeq (tdSet 6 (tdBin mulD (tdLst (tdCons (tdTup (tdCons (tdC (.str "do")) (tdCons (tdCall (tdCons (tdVar 1) (tdCons (tdVar 4) tdNil)) g_law_texts) tdNil))) tdNil)) (tdCB (tdCons (tdBin (eqD true) (tdVar 4) (tdTup tdNil)) tdNil) (c1 intD))))
    (tdSeq (tdIfS (tdB (tdBin (eqD false) (tdCallS 0 (tdCons (tdC (.int 2)) tdNil) g_law_pick) (tdC (.int 0)))) (tdAppend 6 (tdTup (tdCons (tdC (.str "set")) (tdCons (tdBin ixD (tdVar 5) (tdC (.int 0))) tdNil)))) tdNext)
    (tdSeq (tdIfS (tdB (tdBin (eqD false) (tdCallS 0 (tdCons (tdC (.int 3)) tdNil) g_law_pick) (tdC (.int 0)))) (tdAppend 6 (tdIf (tdOr (tdB (tdBin (gtD) (tdCB (tdCons (tdVar 5) tdNil) (c1 lenD)) (tdC (.int 1)))) (tdB (tdBin (ltD) (tdCB (tdCons (tdVar 6) tdNil) (c1 lenD)) (tdC (.int 1))))) (tdTup (tdCons (tdC (.str "clear")) (tdCons (tdBin ixD (tdVar 5) (tdNeg (tdC (.int 1)))) tdNil))) (tdTup (tdCons (tdC (.str "go")) (tdCons (tdBin ixD (tdVar 3) (tdC (.int 0))) tdNil))))) tdNext)
    (tdSeq (tdIfS (tdAnd (tdB (tdBin (eqD false) (tdLc (tdItVar 6) (putD 7) (tdB (tdBin (eqD false) (tdBin ixD (tdVar 7) (tdC (.int 0))) (tdC (.str "go")))) (tdVar 7) (([("deed", 7)] : List (Str × Nat)).map (·.2))) (tdLst tdNil))) (tdB (tdBin (eqD false) (tdCallS 0 (tdCons (tdC (.int 2)) tdNil) g_law_pick) (tdC (.int 0))))) (tdAppend 6 (tdTup (tdCons (tdC (.str "go")) (tdCons (tdCallS 0 (tdCons (tdCB (tdCons (tdVar 3) tdNil) (c1 listD)) tdNil) g_law_of) tdNil)))) tdNext)
    (tdRet (tdCB (tdCons (tdCallS 0 (tdCons (tdVar 6) tdNil) g_law_mixed) tdNil) (c1 tupD))))))))
theorem own_law_deeds (R : Raw K mg "_law_deeds" s_law_deeds p_law_deeds) (O_law_cancels : Own P w K mg base 3 "_law_cancels" p_law_cancels (spS K g_law_cancels)) (O_law_doing : Own P w K mg base 3 "_law_doing" p_law_doing (spS K g_law_doing)) (O_law_mixed : Own P w K mg base 2 "_law_mixed" ["source", "things"] (spS K g_law_mixed)) (O_law_of : Own P w K mg base 2 "_law_of" p_law_of (spS K g_law_of)) (O_law_pick : Own P w K mg base 1 "_law_pick" ["source", "many"] (spS K g_law_pick)) (O_law_texts : Own P w K mg base 1 "_law_texts" p_law_texts (spD K g_law_texts)) (x_int : mg "int" = none) (x_len : mg "len" = none) (x_list : mg "list" = none) (x_tuple : mg "tuple" = none)
    (len : ∀ ds R, g_law_deeds ds R → ds.length + 1 = p_law_deeds.length) (sem : ∀ ds R, g_law_deeds ds R → t_law_deeds { nx := fun _ => R .none false, rt := R } (startS N_law_deeds ds)) : Own P w K mg base 4 "_law_deeds" p_law_deeds (spS K g_law_deeds) := by
  obtain ⟨f_law_cancels, fd_law_cancels, F_law_cancels, m_law_cancels, k_law_cancels, b_law_cancels⟩ := O_law_cancels.ex
  obtain ⟨f_law_doing, fd_law_doing, F_law_doing, m_law_doing, k_law_doing, b_law_doing⟩ := O_law_doing.ex
  obtain ⟨f_law_mixed, fd_law_mixed, F_law_mixed, m_law_mixed, k_law_mixed, b_law_mixed⟩ := O_law_mixed.ex
  obtain ⟨f_law_of, fd_law_of, F_law_of, m_law_of, k_law_of, b_law_of⟩ := O_law_of.ex
  obtain ⟨f_law_pick, fd_law_pick, F_law_pick, m_law_pick, k_law_pick, b_law_pick⟩ := O_law_pick.ex
  obtain ⟨f_law_texts, fd_law_texts, F_law_texts, m_law_texts, k_law_texts, b_law_texts⟩ := O_law_texts.ex
  exact own_s (t := t_law_deeds) R sc_law_deeds len (fun f cdv A outer s H E G hr hG =>
    (dss_cons (ds_par 4 5 rfl sc_law_deeds.nd (de_callS 0 F_law_cancels (hr.mono (by decide)) hG m_law_cancels k_law_cancels b_law_cancels pass0 (da_cons (de_callB cd_len x_len (by decide +kernel) (da_cons (de_var 1) da_nil)) (da_cons (de_callS 0 F_law_doing (hr.mono (by decide)) hG m_law_doing k_law_doing b_law_doing pass0 (da_cons (de_callB cd_len x_len (by decide +kernel) (da_cons (de_var 1) da_nil)) (da_cons de_int da_nil))) da_nil))) (fun _ => (de_callS 0 F_law_mixed (hr.mono (by decide)) hG m_law_mixed k_law_mixed b_law_mixed pass0 (da_cons (de_callT cd_list x_list (by decide +kernel) (da_cons (de_var 2) da_nil)) da_nil))))
    (dss_cons (ds_set 6 sc_law_deeds.nd (de_op od_mul (de_lst (da_cons (de_tup (da_cons de_str (da_cons (de_call F_law_texts (hr.mono (by decide)) hG m_law_texts k_law_texts b_law_texts pass0 (da_cons (de_var 1) (da_cons (de_var 4) da_nil))) da_nil))) da_nil)) (de_callT cd_int x_int (by decide +kernel) (da_cons (de_cmp (od_ne hr.units) (nomark _) (de_var 4) (de_tup da_nil)) da_nil))))
    (dss_cons (ds_if (dt_cmp (od_eq hr.units) (nomark _) (de_callS 0 F_law_pick (hr.mono (by decide)) hG m_law_pick k_law_pick b_law_pick pass0 (da_cons de_int da_nil)) de_int) (dss_one (ds_append (pe_bm PySem.F.plainAttrs_list PySem.F.slot_list_append PySem.F.type_list_append mt_append (pv 6) (pa_cons (DE.pe (de_tup (da_cons de_str (da_cons (de_ix (de_var 5) de_int) da_nil)))) pa_nil)))) dss_nil)
    (dss_cons (ds_if (dt_cmp (od_eq hr.units) (nomark _) (de_callS 0 F_law_pick (hr.mono (by decide)) hG m_law_pick k_law_pick b_law_pick pass0 (da_cons de_int da_nil)) de_int) (dss_one (ds_append (pe_bm PySem.F.plainAttrs_list PySem.F.slot_list_append PySem.F.type_list_append mt_append (pv 6) (pa_cons (DE.pe (de_if (dw_or (dt_cmp od_gt (nomark _) (de_callB cd_len x_len (by decide +kernel) (da_cons (de_var 5) da_nil)) de_int) (dw_or1 (dt_cmp od_lt (nomark _) (de_callB cd_len x_len (by decide +kernel) (da_cons (de_var 6) da_nil)) de_int))).dt (de_tup (da_cons de_str (da_cons (de_ix (de_var 5) (de_neg de_int)) da_nil))) (de_tup (da_cons de_str (da_cons (de_ix (de_var 3) de_int) da_nil))))) pa_nil)))) dss_nil)
    (dss_cons (ds_if (dw_and (dt_cmp (od_eq hr.units) (nomark _) (de_lc rfl sc_law_deeds.nd (blkOk_by (own := [("deed", 7)]) (N := N_law_deeds) (sc := defScope s_law_deeds) (by decide +kernel)) (di_var 6) (fun _ _ _ _ _ _ => (dg_name 7 sc_law_deeds.nd)) (fun _ _ _ _ _ _ => (dts_one (dt_cmp (od_eq hr.units) (nomark _) (de_ix (de_var 7) de_int) de_str))) (fun _ _ _ _ _ _ => (de_var 7))) (de_lst da_nil)) (dw_and1 (dt_cmp (od_eq hr.units) (nomark _) (de_callS 0 F_law_pick (hr.mono (by decide)) hG m_law_pick k_law_pick b_law_pick pass0 (da_cons de_int da_nil)) de_int))).dt (dss_one (ds_append (pe_bm PySem.F.plainAttrs_list PySem.F.slot_list_append PySem.F.type_list_append mt_append (pv 6) (pa_cons (DE.pe (de_tup (da_cons de_str (da_cons (de_callS 0 F_law_of (hr.mono (by decide)) hG m_law_of k_law_of b_law_of pass0 (da_cons (de_callT cd_list x_list (by decide +kernel) (da_cons (de_var 3) da_nil)) da_nil)) da_nil)))) pa_nil)))) dss_nil)
    (dss_one (ds_ret (de_callT cd_tup x_tuple (by decide +kernel) (da_cons (de_callS 0 F_law_mixed (hr.mono (by decide)) hG m_law_mixed k_law_mixed b_law_mixed pass0 (da_cons (de_var 6) da_nil)) da_nil)))))))))) sem
def t_law_flagged : TSd :=
  (tdSeq (tdSet 4 (tdCB (tdCons (tdSl (tdCallS 0 (tdCons (tdLst (tdCons (tdC (.str "s")) (tdCons (tdC (.str "t")) (tdCons (tdC (.str "go2")) tdNil)))) tdNil) g_law_mixed) tdO0 (tdO1 (tdBin addD (tdC (.int 1)) (tdCallS 0 (tdCons (tdC (.int 3)) tdNil) g_law_pick)))) tdNil) (c1 tupD)))
    (tdSeq (tdPar 5 6 (tdSl (tdTup (tdCons (tdC (.str "m")) (tdCons (tdC (.str "n")) (tdCons (tdC (.str "o")) tdNil)))) tdO0 (tdO1 (tdBin addD (tdC (.int 1)) (tdCallS 0 (tdCons (tdC (.int 3)) tdNil) g_law_pick)))) (tdLst tdNil))
    (tdSeq (tdFor (tdItVar 5) (putD 7) (tdSeq (tdSet 8 (tdLst tdNil))
    (tdSeq (tdFor (tdItVar 1) (putD 9) (tdSeq (tdFor (tdRg1 (tdCallS 0 (tdCons (tdLst (tdCons (tdC (.int 1)) (tdCons (tdC (.int 1)) (tdCons (tdC (.int 2)) tdNil)))) tdNil) g_law_of)) (putD 10) (tdAppend 8 (tdTup (tdCons (tdVar 9) (tdCons (tdCallS 0 (tdCons (tdVar 4) (tdCons (tdC (.int 2)) tdNil)) (g_law_condition 5)) (tdCons (tdCallS 0 (tdCons (tdVar 2) (tdCons (tdVar 4) (tdCons (tdVar 5) tdNil))) g_law_deeds) tdNil))))))
    (tdIfS (tdB (tdBin (gtD) (tdCallS 0 (tdCons (tdC (.int 3)) tdNil) g_law_pick) (tdC (.int 0)))) (tdAppend 8 (tdTup (tdCons (tdVar 9) (tdCons (tdTup (tdCons (tdC (.str "any")) tdNil)) (tdCons (tdCallS 0 (tdCons (tdVar 2) (tdCons (tdVar 4) (tdCons (tdVar 5) tdNil))) g_law_deeds) tdNil))))) tdNext)))
    (tdAppend 6 (tdTup (tdCons (tdVar 7) (tdCons (tdBin (eqD false) (tdCallS 0 (tdCons (tdC (.int 2)) tdNil) g_law_pick) (tdC (.int 0))) (tdCons (tdCB (tdCons (tdVar 8) tdNil) (c1 tupD)) tdNil))))))))
    (tdSeq (tdSet 11 (tdCall (tdCons (tdVar 2) (tdCons (tdCallS 0 (tdCons (tdCB (tdCons (tdVar 2) tdNil) (c1 lenD)) (tdCons (tdCallS 0 (tdCons (tdCB (tdCons (tdVar 2) tdNil) (c1 lenD)) (tdCons (tdC (.int 2)) tdNil)) g_law_doing) tdNil)) g_law_cancels) tdNil)) g_law_texts))
    (tdRet (tdTup (tdCons (tdC (.str "program")) (tdCons (tdVar 3) (tdCons (tdVar 11) (tdCons (tdVar 4) (tdCons (tdCB (tdCons (tdVar 6) tdNil) (c1 tupD)) tdNil)))))))))))
theorem own_law_flagged (R : Raw K mg "_law_flagged" s_law_flagged p_law_flagged) (O_law_cancels : Own P w K mg base 3 "_law_cancels" p_law_cancels (spS K g_law_cancels)) (O_law_condition : Own P w K mg base 7 "_law_condition" p_law_condition (spS K (g_law_condition 5))) (O_law_deeds : Own P w K mg base 4 "_law_deeds" p_law_deeds (spS K g_law_deeds)) (O_law_doing : Own P w K mg base 3 "_law_doing" p_law_doing (spS K g_law_doing)) (O_law_mixed : Own P w K mg base 2 "_law_mixed" ["source", "things"] (spS K g_law_mixed)) (O_law_of : Own P w K mg base 2 "_law_of" p_law_of (spS K g_law_of)) (O_law_pick : Own P w K mg base 1 "_law_pick" ["source", "many"] (spS K g_law_pick)) (O_law_texts : Own P w K mg base 1 "_law_texts" p_law_texts (spD K g_law_texts)) (x_len : mg "len" = none) (x_range : mg "range" = none) (x_tuple : mg "tuple" = none)
    (len : ∀ ds R, g_law_flagged ds R → ds.length + 1 = p_law_flagged.length) (sem : ∀ ds R, g_law_flagged ds R → t_law_flagged { nx := fun _ => R .none false, rt := R } (startS N_law_flagged ds)) : Own P w K mg base 8 "_law_flagged" p_law_flagged (spS K g_law_flagged) := by
  obtain ⟨f_law_cancels, fd_law_cancels, F_law_cancels, m_law_cancels, k_law_cancels, b_law_cancels⟩ := O_law_cancels.ex
  obtain ⟨f_law_condition, fd_law_condition, F_law_condition, m_law_condition, k_law_condition, b_law_condition⟩ := O_law_condition.ex
  obtain ⟨f_law_deeds, fd_law_deeds, F_law_deeds, m_law_deeds, k_law_deeds, b_law_deeds⟩ := O_law_deeds.ex
  obtain ⟨f_law_doing, fd_law_doing, F_law_doing, m_law_doing, k_law_doing, b_law_doing⟩ := O_law_doing.ex
  obtain ⟨f_law_mixed, fd_law_mixed, F_law_mixed, m_law_mixed, k_law_mixed, b_law_mixed⟩ := O_law_mixed.ex
  obtain ⟨f_law_of, fd_law_of, F_law_of, m_law_of, k_law_of, b_law_of⟩ := O_law_of.ex
  obtain ⟨f_law_pick, fd_law_pick, F_law_pick, m_law_pick, k_law_pick, b_law_pick⟩ := O_law_pick.ex
  obtain ⟨f_law_texts, fd_law_texts, F_law_texts, m_law_texts, k_law_texts, b_law_texts⟩ := O_law_texts.ex
  exact own_s (t := t_law_flagged) R sc_law_flagged len (fun f cdv A outer s H E G hr hG =>
    (dss_cons (ds_set 4 sc_law_flagged.nd (de_callT cd_tup x_tuple (by decide +kernel) (da_cons (de_sl (de_callS 0 F_law_mixed (hr.mono (by decide)) hG m_law_mixed k_law_mixed b_law_mixed pass0 (da_cons (de_lst (da_cons de_str (da_cons de_str (da_cons de_str da_nil)))) da_nil)) do_none (do_some (de_op od_add de_int (de_callS 0 F_law_pick (hr.mono (by decide)) hG m_law_pick k_law_pick b_law_pick pass0 (da_cons de_int da_nil))))) da_nil)))
    (dss_cons (ds_par 5 6 rfl sc_law_flagged.nd (de_sl (de_tup (da_cons de_str (da_cons de_str (da_cons de_str da_nil)))) do_none (do_some (de_op od_add de_int (de_callS 0 F_law_pick (hr.mono (by decide)) hG m_law_pick k_law_pick b_law_pick pass0 (da_cons de_int da_nil))))) (fun _ => (de_lst da_nil)))
    (dss_cons (ds_for PassesOwn.never rfl (di_var 5) (fun _ => (dg_name 7 sc_law_flagged.nd)) (fun _ => (dss_cons (ds_set 8 sc_law_flagged.nd (de_lst da_nil))
    (dss_cons (ds_for PassesOwn.never rfl (di_var 1) (fun _ => (dg_name 9 sc_law_flagged.nd)) (fun _ => (dss_cons (ds_for PassesOwn.never rfl (di_rg1 x_range (de_callS 0 F_law_of (hr.mono (by decide)) hG m_law_of k_law_of b_law_of pass0 (da_cons (de_lst (da_cons de_int (da_cons de_int (da_cons de_int da_nil)))) da_nil))) (fun _ => (dg_name 10 sc_law_flagged.nd)) (fun _ => (dss_one (ds_append (pe_bm PySem.F.plainAttrs_list PySem.F.slot_list_append PySem.F.type_list_append mt_append (pv 8) (pa_cons (DE.pe (de_tup (da_cons (de_var 9) (da_cons (de_callS 0 F_law_condition (hr.mono (by decide)) hG m_law_condition k_law_condition b_law_condition pass0 (da_cons (de_var 4) (da_cons de_int da_nil))) (da_cons (de_callS 0 F_law_deeds (hr.mono (by decide)) hG m_law_deeds k_law_deeds b_law_deeds pass0 (da_cons (de_var 2) (da_cons (de_var 4) (da_cons (de_var 5) da_nil)))) da_nil))))) pa_nil))))))
    (dss_one (ds_if (dt_cmp od_gt (nomark _) (de_callS 0 F_law_pick (hr.mono (by decide)) hG m_law_pick k_law_pick b_law_pick pass0 (da_cons de_int da_nil)) de_int) (dss_one (ds_append (pe_bm PySem.F.plainAttrs_list PySem.F.slot_list_append PySem.F.type_list_append mt_append (pv 8) (pa_cons (DE.pe (de_tup (da_cons (de_var 9) (da_cons (de_tup (da_cons de_str da_nil)) (da_cons (de_callS 0 F_law_deeds (hr.mono (by decide)) hG m_law_deeds k_law_deeds b_law_deeds pass0 (da_cons (de_var 2) (da_cons (de_var 4) (da_cons (de_var 5) da_nil)))) da_nil))))) pa_nil)))) dss_nil)))))
    (dss_one (ds_append (pe_bm PySem.F.plainAttrs_list PySem.F.slot_list_append PySem.F.type_list_append mt_append (pv 6) (pa_cons (DE.pe (de_tup (da_cons (de_var 7) (da_cons (de_cmp (od_eq hr.units) (nomark _) (de_callS 0 F_law_pick (hr.mono (by decide)) hG m_law_pick k_law_pick b_law_pick pass0 (da_cons de_int da_nil)) de_int) (da_cons (de_callT cd_tup x_tuple (by decide +kernel) (da_cons (de_var 8) da_nil)) da_nil))))) pa_nil))))))))
    (dss_cons (ds_set 11 sc_law_flagged.nd (de_call F_law_texts (hr.mono (by decide)) hG m_law_texts k_law_texts b_law_texts pass0 (da_cons (de_var 2) (da_cons (de_callS 0 F_law_cancels (hr.mono (by decide)) hG m_law_cancels k_law_cancels b_law_cancels pass0 (da_cons (de_callB cd_len x_len (by decide +kernel) (da_cons (de_var 2) da_nil)) (da_cons (de_callS 0 F_law_doing (hr.mono (by decide)) hG m_law_doing k_law_doing b_law_doing pass0 (da_cons (de_callB cd_len x_len (by decide +kernel) (da_cons (de_var 2) da_nil)) (da_cons de_int da_nil))) da_nil))) da_nil))))
    (dss_one (ds_ret (de_tup (da_cons de_str (da_cons (de_var 3) (da_cons (de_var 11) (da_cons (de_var 4) (da_cons (de_callT cd_tup x_tuple (by decide +kernel) (da_cons (de_var 6) da_nil)) da_nil))))))))))))) sem
def t_law_read : TSd :=
  (tdSeq (tdSet 4 (tdBin ixD (tdLc (tdIt (tdBin ixD (tdVar 0) (tdC (.int 4)))) (gdTup 3 (gdCons (putD 3) (gdCons (putD 12) (gdCons (putD 4) gdNil)))) (tdB (tdBin (eqD false) (tdVar 3) (tdBin ixD (tdVar 1) (tdC (.int 0))))) (tdVar 4) (([("mode", 3), ("says", 12), ("rules", 4)] : List (Str × Nat)).map (·.2))) (tdC (.int 0))))
    (tdSeq (tdSet 5 (tdLc (tdItVar 4) (gdTup 3 (gdCons (putD 9) (gdCons (putD 10) (gdCons (putD 11) gdNil)))) (tdAnd (tdB (tdBin (eqD false) (tdVar 9) (tdVar 2))) (tdB (tdCall (tdCons (tdVar 10) (tdCons (tdBin ixD (tdVar 1) (tdC (.int 1))) tdNil)) (g_law_holds 8)))) (tdVar 11) (([("one", 9), ("condition", 10), ("deeds", 11)] : List (Str × Nat)).map (·.2))))
    (tdSeq (tdIfS (tdB (tdBin (eqD false) (tdVar 5) (tdLst tdNil))) (tdRet (tdC .none)) tdNext)
    (tdSeq (tdPar3 6 3 7 (tdTup tdNil) (tdBin ixD (tdVar 1) (tdC (.int 0))) (tdCB (tdCons (tdBin ixD (tdVar 1) (tdC (.int 1))) tdNil) (c1 listD)))
    (tdSeq (tdFor (tdIt (tdBin ixD (tdVar 5) (tdC (.int 0)))) (putD 8) (tdIfS (tdB (tdBin (eqD false) (tdBin ixD (tdVar 8) (tdC (.int 0))) (tdC (.str "do")))) (tdSet 6 (tdBin ixD (tdVar 8) (tdC (.int 1)))) (tdIfS (tdB (tdBin (eqD false) (tdBin ixD (tdVar 8) (tdC (.int 0))) (tdC (.str "go")))) (tdSet 3 (tdBin ixD (tdVar 8) (tdC (.int 1)))) (tdIfS (tdB (tdBin (eqD false) (tdBin ixD (tdVar 8) (tdC (.int 0))) (tdC (.str "set")))) (tdAppend 7 (tdBin ixD (tdVar 8) (tdC (.int 1)))) (tdSet 7 (tdLc (tdItVar 7) (putD 13) (tdB (tdBin (eqD true) (tdVar 13) (tdBin ixD (tdVar 8) (tdC (.int 1))))) (tdVar 13) (([("flag", 13)] : List (Str × Nat)).map (·.2))))))))
    (tdRet (tdTup (tdCons (tdVar 6) (tdCons (tdTup (tdCons (tdVar 3) (tdCons (tdCB (tdCons (tdLc (tdIt (tdBin ixD (tdVar 0) (tdC (.int 3)))) (putD 13) (tdB (tdBin (inD false) (tdVar 13) (tdVar 7))) (tdVar 13) (([("flag", 13)] : List (Str × Nat)).map (·.2))) tdNil) (c1 tupD)) tdNil))) tdNil)))))))))
theorem own_law_read (R : Raw K mg "_law_read" s_law_read p_law_read) (O_law_holds : Own P w K mg base 8 "_law_holds" p_law_holds (spD K (g_law_holds 8))) (x_list : mg "list" = none) (x_tuple : mg "tuple" = none)
    (len : ∀ ds R, g_law_read ds R → ds.length = p_law_read.length) (sem : ∀ ds R, g_law_read ds R → t_law_read { nx := fun _ => R .none false, rt := R } (startD N_law_read ds)) : Own P w K mg base 9 "_law_read" p_law_read (spD K g_law_read) := by
  obtain ⟨f_law_holds, fd_law_holds, F_law_holds, m_law_holds, k_law_holds, b_law_holds⟩ := O_law_holds.ex
  exact own_d (t := t_law_read) R sc_law_read len (fun f cdv A outer s H E G hr hG =>
    (dss_cons (ds_set 4 sc_law_read.nd (de_ix (de_lc rfl sc_law_read.nd (blkOk_by (own := [("mode", 3), ("says", 12), ("rules", 4)]) (N := N_law_read) (sc := defScope s_law_read) (by decide +kernel)) (di_any (de_ix (de_var 0) de_int)) (fun _ _ _ _ _ _ => (dg_tup rfl (dgs_cons (dg_name 3 sc_law_read.nd) (dgs_cons (dg_name 12 sc_law_read.nd) (dgs_cons (dg_name 4 sc_law_read.nd) dgs_nil))))) (fun _ _ _ _ _ _ => (dts_one (dt_cmp (od_eq hr.units) (nomark _) (de_var 3) (de_ix (de_var 1) de_int)))) (fun _ _ _ _ _ _ => (de_var 4))) de_int))
    (dss_cons (ds_setLc 5 rfl sc_law_read.nd (sw_true rfl rfl rfl (by decide +kernel)) (blkOk_by (own := [("one", 9), ("condition", 10), ("deeds", 11)]) (N := N_law_read) (sc := defScope s_law_read) (by decide +kernel)) (di_var 4) (fun _ _ _ _ _ _ => (dg_tup rfl (dgs_cons (dg_name 9 sc_law_read.nd) (dgs_cons (dg_name 10 sc_law_read.nd) (dgs_cons (dg_name 11 sc_law_read.nd) dgs_nil))))) (fun _ _ _ _ _ _ => (dts_one (dw_and (dt_cmp (od_eq hr.units) (nomark _) (de_var 9) (de_var 2)) (dw_and1 (dt_val (de_call F_law_holds (hr.mono (by decide)) hG m_law_holds k_law_holds b_law_holds pass0 (da_cons (de_var 10) (da_cons (de_ix (de_var 1) de_int) da_nil)))))).dt)) (fun _ _ _ _ _ _ => (de_var 11)))
    (dss_cons (ds_if (dt_cmp (od_eq hr.units) (nomark _) (de_var 5) (de_lst da_nil)) (dss_one (ds_ret de_non)) dss_nil)
    (dss_cons (ds_par3C 6 3 7 rfl sc_law_read.nd (de_tup da_nil) (de_ix (de_var 1) de_int) (de_callT cd_list x_list (by decide +kernel) (da_cons (de_ix (de_var 1) de_int) da_nil)))
    (dss_cons (ds_for PassesOwn.never rfl (di_any (de_ix (de_var 5) de_int)) (fun _ => (dg_name 8 sc_law_read.nd)) (fun _ => (dss_one (ds_if (dt_cmp (od_eq hr.units) (nomark _) (de_ix (de_var 8) de_int) de_str) (dss_one (ds_set 6 sc_law_read.nd (de_ix (de_var 8) de_int))) (dss_one (ds_if (dt_cmp (od_eq hr.units) (nomark _) (de_ix (de_var 8) de_int) de_str) (dss_one (ds_set 3 sc_law_read.nd (de_ix (de_var 8) de_int))) (dss_one (ds_if (dt_cmp (od_eq hr.units) (nomark _) (de_ix (de_var 8) de_int) de_str) (dss_one (ds_append (pe_bm PySem.F.plainAttrs_list PySem.F.slot_list_append PySem.F.type_list_append mt_append (pv 7) (pa_cons (DE.pe (de_ix (de_var 8) de_int)) pa_nil)))) (dss_one (ds_set 7 sc_law_read.nd (de_lc rfl sc_law_read.nd (blkOk_by (own := [("flag", 13)]) (N := N_law_read) (sc := defScope s_law_read) (by decide +kernel)) (di_var 7) (fun _ _ _ _ _ _ => (dg_name 13 sc_law_read.nd)) (fun _ _ _ _ _ _ => (dts_one (dt_cmp (od_ne hr.units) (nomark _) (de_var 13) (de_ix (de_var 8) de_int)))) (fun _ _ _ _ _ _ => (de_var 13)))))))))))))
    (dss_one (ds_ret (de_tup (da_cons (de_var 6) (da_cons (de_tup (da_cons (de_var 3) (da_cons (de_callT cd_tup x_tuple (by decide +kernel) (da_cons (de_lc rfl sc_law_read.nd (blkOk_by (own := [("flag", 13)]) (N := N_law_read) (sc := defScope s_law_read) (by decide +kernel)) (di_any (de_ix (de_var 0) de_int)) (fun _ _ _ _ _ _ => (dg_name 13 sc_law_read.nd)) (fun _ _ _ _ _ _ => (dts_one (dt_cmp (od_in (in_of hr)) (by rfl) (de_var 13) (de_var 7)))) (fun _ _ _ _ _ _ => (de_var 13))) da_nil)) da_nil))) da_nil))))))))))) sem
def t_law_parts (g_law_parts : DL.Spec) : TSd :=
  (tdSeq (tdSet 2 (tdLst (tdCons (tdTup (tdCons (tdVar 1) (tdCons (tdVar 0) tdNil))) tdNil)))
    (tdSeq (tdIfS (tdB (tdBin (inD false) (tdBin ixD (tdVar 0) (tdC (.int 0))) (tdTup (tdCons (tdC (.str "not")) (tdCons (tdC (.str "and")) (tdCons (tdC (.str "or")) tdNil)))))) (tdFor (tdRg2 (tdC (.int 1)) (tdCB (tdCons (tdVar 0) tdNil) (c1 lenD))) (putD 3) (tdSet 2 (tdBin addD (tdVar 2) (tdCall (tdCons (tdBin ixD (tdVar 0) (tdVar 3)) (tdCons (tdBin addD (tdVar 1) (tdTup (tdCons (tdVar 3) tdNil))) tdNil)) g_law_parts)))) tdNext)
    (tdRetVar 2)))
theorem own_law_parts {k : Nat} {g g' : DL.Spec} (hk : 0 ≤ k) (R : Raw K mg "_law_parts" s_law_parts p_law_parts) (O_law_parts : Own P w K mg base k "_law_parts" p_law_parts (spD K g)) (x_len : mg "len" = none) (x_range : mg "range" = none)
    (len : ∀ ds R, g' ds R → ds.length = p_law_parts.length) (sem : ∀ ds R, g' ds R → t_law_parts g { nx := fun _ => R .none false, rt := R } (startD N_law_parts ds)) : Own P w K mg base (k + 1) "_law_parts" p_law_parts (spD K g') := by
  obtain ⟨f_law_parts, fd_law_parts, F_law_parts, m_law_parts, k_law_parts, b_law_parts⟩ := O_law_parts.ex
  exact own_d (t := t_law_parts g) R sc_law_parts len (fun f cdv A outer s H E G hr hG =>
    (dss_cons (ds_set 2 sc_law_parts.nd (de_lst (da_cons (de_tup (da_cons (de_var 1) (da_cons (de_var 0) da_nil))) da_nil)))
    (dss_cons (ds_if (dt_cmp (od_in (in_of hr)) (by rfl) (de_ix (de_var 0) de_int) (de_tup (da_cons de_str (da_cons de_str (da_cons de_str da_nil))))) (dss_one (ds_for PassesOwn.never rfl (di_rg2 x_range de_int (de_callB cd_len x_len (by decide +kernel) (da_cons (de_var 0) da_nil))) (fun _ => (dg_name 3 sc_law_parts.nd)) (fun _ => (dss_one (ds_set 2 sc_law_parts.nd (de_op od_add (de_var 2) (de_call F_law_parts hr hG m_law_parts k_law_parts b_law_parts pass0 (da_cons (de_ix (de_var 0) (de_var 3)) (da_cons (de_op od_add (de_var 1) (de_tup (da_cons (de_var 3) da_nil))) da_nil))))))))) dss_nil)
    (dss_one (ds_retVar 2))))) sem
def t_law_flag_names : TSd :=
  (tdSeq (tdSet 1 (tdLc (tdIt (tdCall (tdCons (tdVar 0) (tdCons (tdTup tdNil) tdNil)) (g_law_parts 8))) (gdTup 2 (gdCons (putD 2) (gdCons (putD 3) gdNil))) (tdB (tdBin (eqD false) (tdBin ixD (tdVar 3) (tdC (.int 0))) (tdC (.str "flag")))) (tdBin ixD (tdVar 3) (tdC (.int 1))) (([("place", 2), ("part", 3)] : List (Str × Nat)).map (·.2))))
    (tdRet (tdCB (tdCons (tdSortDict (tdLc (tdItVar 1) (putD 4) (fun _ R => R true) (tdTup (tdCons (tdVar 4) (tdCons (tdC (.int 0)) tdNil))) (([("flag", 4)] : List (Str × Nat)).map (·.2)))) tdNil) (c1 tupD))))
theorem own_law_flag_names (R : Raw K mg "_law_flag_names" s_law_flag_names p_law_flag_names) (O_law_parts : Own P w K mg base 8 "_law_parts" p_law_parts (spD K (g_law_parts 8))) (x_dict : mg "dict" = none) (x_sorted : mg "sorted" = none) (x_tuple : mg "tuple" = none)
    (len : ∀ ds R, g_law_flag_names ds R → ds.length = p_law_flag_names.length) (sem : ∀ ds R, g_law_flag_names ds R → t_law_flag_names { nx := fun _ => R .none false, rt := R } (startD N_law_flag_names ds)) : Own P w K mg base 9 "_law_flag_names" p_law_flag_names (spD K g_law_flag_names) := by
  obtain ⟨f_law_parts, fd_law_parts, F_law_parts, m_law_parts, k_law_parts, b_law_parts⟩ := O_law_parts.ex
  exact own_d (t := t_law_flag_names) R sc_law_flag_names len (fun f cdv A outer s H E G hr hG =>
    (dss_cons (ds_setLc 1 rfl sc_law_flag_names.nd (sw_true rfl rfl rfl (by decide +kernel)) (blkOk_by (own := [("place", 2), ("part", 3)]) (N := N_law_flag_names) (sc := defScope s_law_flag_names) (by decide +kernel)) (di_any (de_call F_law_parts (hr.mono (by decide)) hG m_law_parts k_law_parts b_law_parts pass0 (da_cons (de_var 0) (da_cons (de_tup da_nil) da_nil)))) (fun _ _ _ _ _ _ => (dg_tup rfl (dgs_cons (dg_name 2 sc_law_flag_names.nd) (dgs_cons (dg_name 3 sc_law_flag_names.nd) dgs_nil)))) (fun _ _ _ _ _ _ => (dts_one (dt_cmp (od_eq hr.units) (nomark _) (de_ix (de_var 3) de_int) de_str))) (fun _ _ _ _ _ _ => (de_ix (de_var 3) de_int)))
    (dss_one (ds_ret (de_callT cd_tup x_tuple (by decide +kernel) (da_cons (de_sortDict rfl x_sorted x_dict (de_lc rfl sc_law_flag_names.nd (blkOk_by (own := [("flag", 4)]) (N := N_law_flag_names) (sc := defScope s_law_flag_names) (by decide +kernel)) (di_var 1) (fun _ _ _ _ _ _ => (dg_name 4 sc_law_flag_names.nd)) (fun _ _ _ _ _ _ => dts_nil) (fun _ _ _ _ _ _ => (de_tup (da_cons (de_var 4) (da_cons de_int da_nil)))))) da_nil)))))) sem
def t_law_twice : TSd :=
  (tdSeq (tdFor (tdEnum (tdVar 0)) (gdTup 2 (gdCons (putD 3) (gdCons (putD 4) gdNil))) (tdIfS (tdB (tdBin (inD false) (tdVar 4) (tdSl (tdVar 0) tdO0 (tdO1 (tdVar 3))))) (tdRet (tdLst (tdCons (tdTup (tdCons (tdBin addD (tdBin addD (tdVar 1) (tdTup (tdCons (tdVar 3) tdNil))) (tdVar 2)) (tdCons (tdC (.str "twice")) tdNil))) tdNil))) tdNext))
    (tdRet (tdLst tdNil)))
theorem own_law_twice (R : Raw K mg "_law_twice" s_law_twice p_law_twice) (x_enumerate : mg "enumerate" = none)
    (len : ∀ ds R, g_law_twice ds R → ds.length = p_law_twice.length) (sem : ∀ ds R, g_law_twice ds R → t_law_twice { nx := fun _ => R .none false, rt := R } (startD N_law_twice ds)) : Own P w K mg base 1 "_law_twice" p_law_twice (spD K g_law_twice) := by
  exact own_d (t := t_law_twice) R sc_law_twice len (fun f cdv A outer s H E G hr hG =>
    (dss_cons (ds_for PassesOwn.never rfl (di_enumerate x_enumerate (de_var 0)) (fun _ => (dg_tup rfl (dgs_cons (dg_name 3 sc_law_twice.nd) (dgs_cons (dg_name 4 sc_law_twice.nd) dgs_nil)))) (fun _ => (dss_one (ds_if (dt_cmp (od_in (in_of hr)) (by rfl) (de_var 4) (de_sl (de_var 0) do_none (do_some (de_var 3)))) (dss_one (ds_ret (de_lst (da_cons (de_tup (da_cons (de_op od_add (de_op od_add (de_var 1) (de_tup (da_cons (de_var 3) da_nil))) (de_var 2)) (da_cons de_str da_nil))) da_nil)))) dss_nil))))
    (dss_one (ds_ret (de_lst da_nil))))) sem
def t_law_acts_wrong : TSd :=
  (tdSeq (tdFor (tdEnum (tdVar 1)) (gdTup 2 (gdCons (putD 3) (gdCons (putD 4) gdNil))) (tdIfS (tdB (tdBin (inD true) (tdIf (tdB (tdBin (eqD false) (tdSl (tdVar 4) (tdO1 (tdNeg (tdC (.int 1)))) tdO0) (tdC (.str "-")))) (tdSl (tdVar 4) tdO0 (tdO1 (tdNeg (tdC (.int 1))))) (tdVar 4)) (tdVar 0))) (tdRet (tdLst (tdCons (tdTup (tdCons (tdBin addD (tdVar 2) (tdTup (tdCons (tdVar 3) tdNil))) (tdCons (tdC (.str "act")) tdNil))) tdNil))) tdNext))
    (tdRet (tdLst tdNil)))
theorem own_law_acts_wrong (R : Raw K mg "_law_acts_wrong" s_law_acts_wrong p_law_acts_wrong) (x_enumerate : mg "enumerate" = none)
    (len : ∀ ds R, g_law_acts_wrong ds R → ds.length = p_law_acts_wrong.length) (sem : ∀ ds R, g_law_acts_wrong ds R → t_law_acts_wrong { nx := fun _ => R .none false, rt := R } (startD N_law_acts_wrong ds)) : Own P w K mg base 1 "_law_acts_wrong" p_law_acts_wrong (spD K g_law_acts_wrong) := by
  exact own_d (t := t_law_acts_wrong) R sc_law_acts_wrong len (fun f cdv A outer s H E G hr hG =>
    (dss_cons (ds_for PassesOwn.never rfl (di_enumerate x_enumerate (de_var 1)) (fun _ => (dg_tup rfl (dgs_cons (dg_name 3 sc_law_acts_wrong.nd) (dgs_cons (dg_name 4 sc_law_acts_wrong.nd) dgs_nil)))) (fun _ => (dss_one (ds_if (dt_cmp (od_notin (in_of hr)) (by rfl) (de_if (dt_cmp (od_eq hr.units) (nomark _) (de_sl (de_var 4) (do_some (de_neg de_int)) do_none) de_str) (de_sl (de_var 4) do_none (do_some (de_neg de_int))) (de_var 4)) (de_var 0)) (dss_one (ds_ret (de_lst (da_cons (de_tup (da_cons (de_op od_add (de_var 2) (de_tup (da_cons (de_var 3) da_nil))) (da_cons de_str da_nil))) da_nil)))) dss_nil))))
    (dss_one (ds_ret (de_lst da_nil))))) sem
def t_law_rule_wrong : TSd :=
  (tdSeq (tdSet 5 (tdBin mulD (tdLst (tdCons (tdTup (tdCons (tdBin addD (tdVar 4) (tdTup (tdCons (tdC (.int 0)) tdNil))) (tdCons (tdC (.str "name")) tdNil))) tdNil)) (tdCB (tdCons (tdBin (inD true) (tdBin ixD (tdVar 3) (tdC (.int 0))) (tdVar 0)) tdNil) (c1 intD))))
    (tdSeq (tdFor (tdIt (tdCall (tdCons (tdBin ixD (tdVar 3) (tdC (.int 1))) (tdCons (tdBin addD (tdVar 4) (tdTup (tdCons (tdC (.int 1)) tdNil))) tdNil)) (g_law_parts 8))) (gdTup 2 (gdCons (putD 6) (gdCons (putD 7) gdNil))) (tdSet 5 (tdBin addD (tdVar 5) (tdBin mulD (tdLst (tdCons (tdTup (tdCons (tdBin addD (tdVar 6) (tdTup (tdCons (tdC (.int 1)) tdNil))) (tdCons (tdC (.str "flag")) tdNil))) tdNil)) (tdCB (tdCons (tdAndV (tdBin (eqD false) (tdBin ixD (tdVar 7) (tdC (.int 0))) (tdC (.str "flag"))) (tdBin (inD true) (tdBin ixD (tdVar 7) (tdC (.int 1))) (tdBin ixD (tdVar 2) (tdC (.int 3))))) tdNil) (c1 intD))))))
    (tdSeq (tdSet 8 (tdLst tdNil))
    (tdSeq (tdFor (tdEnum (tdBin ixD (tdVar 3) (tdC (.int 2)))) (gdTup 2 (gdCons (putD 9) (gdCons (putD 10) gdNil))) (tdSeq (tdSet 6 (tdBin addD (tdVar 4) (tdTup (tdCons (tdC (.int 2)) (tdCons (tdVar 9) tdNil)))))
    (tdSeq (tdIfS (tdB (tdBin (eqD false) (tdBin ixD (tdVar 10) (tdC (.int 0))) (tdC (.str "do")))) (tdSet 5 (tdBin addD (tdVar 5) (tdCall (tdCons (tdVar 1) (tdCons (tdBin ixD (tdVar 10) (tdC (.int 1))) (tdCons (tdBin addD (tdVar 6) (tdTup (tdCons (tdC (.int 1)) tdNil))) tdNil))) g_law_acts_wrong))) (tdIfS (tdB (tdBin (eqD false) (tdBin ixD (tdVar 10) (tdC (.int 0))) (tdC (.str "go")))) (tdSeq (tdSet 11 (tdLc (tdIt (tdBin ixD (tdVar 2) (tdC (.int 4)))) (putD 13) (fun _ R => R true) (tdBin ixD (tdVar 13) (tdC (.int 0))) (([("mode", 13)] : List (Str × Nat)).map (·.2))))
    (tdSet 5 (tdBin addD (tdVar 5) (tdBin mulD (tdLst (tdCons (tdTup (tdCons (tdBin addD (tdVar 6) (tdTup (tdCons (tdC (.int 1)) tdNil))) (tdCons (tdC (.str "mode")) tdNil))) tdNil)) (tdCB (tdCons (tdBin (inD true) (tdBin ixD (tdVar 10) (tdC (.int 1))) (tdVar 11)) tdNil) (c1 intD)))))) (tdSet 5 (tdBin addD (tdVar 5) (tdBin mulD (tdLst (tdCons (tdTup (tdCons (tdBin addD (tdVar 6) (tdTup (tdCons (tdC (.int 1)) tdNil))) (tdCons (tdC (.str "flag")) tdNil))) tdNil)) (tdCB (tdCons (tdBin (inD true) (tdBin ixD (tdVar 10) (tdC (.int 1))) (tdBin ixD (tdVar 2) (tdC (.int 3)))) tdNil) (c1 intD)))))))
    (tdSeq (tdSet 12 (tdIf (tdB (tdBin (inD false) (tdBin ixD (tdVar 10) (tdC (.int 0))) (tdTup (tdCons (tdC (.str "do")) (tdCons (tdC (.str "go")) tdNil))))) (tdBin ixD (tdVar 10) (tdC (.int 0))) (tdBin addD (tdC (.str "flag ")) (tdBin ixD (tdVar 10) (tdC (.int 1))))))
    (tdSeq (tdSet 5 (tdBin addD (tdVar 5) (tdBin mulD (tdLst (tdCons (tdTup (tdCons (tdVar 6) (tdCons (tdC (.str "deeds")) tdNil))) tdNil)) (tdCB (tdCons (tdBin (inD false) (tdVar 12) (tdVar 8)) tdNil) (c1 intD)))))
    (tdAppend 8 (tdVar 12)))))))
    (tdRet (tdSl (tdVar 5) tdO0 (tdO1 (tdC (.int 1)))))))))
theorem own_law_rule_wrong (R : Raw K mg "_law_rule_wrong" s_law_rule_wrong p_law_rule_wrong) (O_law_acts_wrong : Own P w K mg base 1 "_law_acts_wrong" p_law_acts_wrong (spD K g_law_acts_wrong)) (O_law_parts : Own P w K mg base 8 "_law_parts" p_law_parts (spD K (g_law_parts 8))) (x_enumerate : mg "enumerate" = none) (x_int : mg "int" = none)
    (len : ∀ ds R, g_law_rule_wrong ds R → ds.length = p_law_rule_wrong.length) (sem : ∀ ds R, g_law_rule_wrong ds R → t_law_rule_wrong { nx := fun _ => R .none false, rt := R } (startD N_law_rule_wrong ds)) : Own P w K mg base 9 "_law_rule_wrong" p_law_rule_wrong (spD K g_law_rule_wrong) := by
  obtain ⟨f_law_acts_wrong, fd_law_acts_wrong, F_law_acts_wrong, m_law_acts_wrong, k_law_acts_wrong, b_law_acts_wrong⟩ := O_law_acts_wrong.ex
  obtain ⟨f_law_parts, fd_law_parts, F_law_parts, m_law_parts, k_law_parts, b_law_parts⟩ := O_law_parts.ex
  exact own_d (t := t_law_rule_wrong) R sc_law_rule_wrong len (fun f cdv A outer s H E G hr hG =>
    (dss_cons (ds_set 5 sc_law_rule_wrong.nd (de_op od_mul (de_lst (da_cons (de_tup (da_cons (de_op od_add (de_var 4) (de_tup (da_cons de_int da_nil))) (da_cons de_str da_nil))) da_nil)) (de_callT cd_int x_int (by decide +kernel) (da_cons (de_cmp (od_notin (in_of hr)) (by rfl) (de_ix (de_var 3) de_int) (de_var 0)) da_nil))))
    (dss_cons (ds_for PassesOwn.never rfl (di_any (de_call F_law_parts (hr.mono (by decide)) hG m_law_parts k_law_parts b_law_parts pass0 (da_cons (de_ix (de_var 3) de_int) (da_cons (de_op od_add (de_var 4) (de_tup (da_cons de_int da_nil))) da_nil)))) (fun _ => (dg_tup rfl (dgs_cons (dg_name 6 sc_law_rule_wrong.nd) (dgs_cons (dg_name 7 sc_law_rule_wrong.nd) dgs_nil)))) (fun _ => (dss_one (ds_set 5 sc_law_rule_wrong.nd (de_op od_add (de_var 5) (de_op od_mul (de_lst (da_cons (de_tup (da_cons (de_op od_add (de_var 6) (de_tup (da_cons de_int da_nil))) (da_cons de_str da_nil))) da_nil)) (de_callT cd_int x_int (by decide +kernel) (da_cons (de_and (de_cmp (od_eq hr.units) (nomark _) (de_ix (de_var 7) de_int) de_str) (de_one (de_cmp (od_notin (in_of hr)) (by rfl) (de_ix (de_var 7) de_int) (de_ix (de_var 2) de_int)))) da_nil))))))))
    (dss_cons (ds_set 8 sc_law_rule_wrong.nd (de_lst da_nil))
    (dss_cons (ds_for PassesOwn.never rfl (di_enumerate x_enumerate (de_ix (de_var 3) de_int)) (fun _ => (dg_tup rfl (dgs_cons (dg_name 9 sc_law_rule_wrong.nd) (dgs_cons (dg_name 10 sc_law_rule_wrong.nd) dgs_nil)))) (fun _ => (dss_cons (ds_set 6 sc_law_rule_wrong.nd (de_op od_add (de_var 4) (de_tup (da_cons de_int (da_cons (de_var 9) da_nil)))))
    (dss_cons (ds_if (dt_cmp (od_eq hr.units) (nomark _) (de_ix (de_var 10) de_int) de_str) (dss_one (ds_set 5 sc_law_rule_wrong.nd (de_op od_add (de_var 5) (de_call F_law_acts_wrong (hr.mono (by decide)) hG m_law_acts_wrong k_law_acts_wrong b_law_acts_wrong pass0 (da_cons (de_var 1) (da_cons (de_ix (de_var 10) de_int) (da_cons (de_op od_add (de_var 6) (de_tup (da_cons de_int da_nil))) da_nil))))))) (dss_one (ds_if (dt_cmp (od_eq hr.units) (nomark _) (de_ix (de_var 10) de_int) de_str) (dss_cons (ds_setLc 11 rfl sc_law_rule_wrong.nd (sw_true rfl rfl rfl (by decide +kernel)) (blkOk_by (own := [("mode", 13)]) (N := N_law_rule_wrong) (sc := defScope s_law_rule_wrong) (by decide +kernel)) (di_any (de_ix (de_var 2) de_int)) (fun _ _ _ _ _ _ => (dg_name 13 sc_law_rule_wrong.nd)) (fun _ _ _ _ _ _ => dts_nil) (fun _ _ _ _ _ _ => (de_ix (de_var 13) de_int)))
    (dss_one (ds_set 5 sc_law_rule_wrong.nd (de_op od_add (de_var 5) (de_op od_mul (de_lst (da_cons (de_tup (da_cons (de_op od_add (de_var 6) (de_tup (da_cons de_int da_nil))) (da_cons de_str da_nil))) da_nil)) (de_callT cd_int x_int (by decide +kernel) (da_cons (de_cmp (od_notin (in_of hr)) (by rfl) (de_ix (de_var 10) de_int) (de_var 11)) da_nil))))))) (dss_one (ds_set 5 sc_law_rule_wrong.nd (de_op od_add (de_var 5) (de_op od_mul (de_lst (da_cons (de_tup (da_cons (de_op od_add (de_var 6) (de_tup (da_cons de_int da_nil))) (da_cons de_str da_nil))) da_nil)) (de_callT cd_int x_int (by decide +kernel) (da_cons (de_cmp (od_notin (in_of hr)) (by rfl) (de_ix (de_var 10) de_int) (de_ix (de_var 2) de_int)) da_nil)))))))))
    (dss_cons (ds_set 12 sc_law_rule_wrong.nd (de_if (dt_cmp (od_in (in_of hr)) (by rfl) (de_ix (de_var 10) de_int) (de_tup (da_cons de_str (da_cons de_str da_nil)))) (de_ix (de_var 10) de_int) (de_op od_add de_str (de_ix (de_var 10) de_int))))
    (dss_cons (ds_set 5 sc_law_rule_wrong.nd (de_op od_add (de_var 5) (de_op od_mul (de_lst (da_cons (de_tup (da_cons (de_var 6) (da_cons de_str da_nil))) da_nil)) (de_callT cd_int x_int (by decide +kernel) (da_cons (de_cmp (od_in (in_of hr)) (by rfl) (de_var 12) (de_var 8)) da_nil)))))
    (dss_one (ds_append (pe_bm PySem.F.plainAttrs_list PySem.F.slot_list_append PySem.F.type_list_append mt_append (pv 8) (pa_cons (DE.pe (de_var 12)) pa_nil))))))))))
    (dss_one (ds_ret (de_sl (de_var 5) do_none (do_some de_int))))))))) sem
def t_law_wrong : TSd :=
  (tdSeq (tdSet 3 (tdBin addD (tdCall (tdCons (tdVar 1) (tdCons (tdBin ixD (tdVar 2) (tdC (.int 2))) (tdCons (tdTup (tdCons (tdC (.int 2)) tdNil)) tdNil))) g_law_acts_wrong) (tdCall (tdCons (tdBin ixD (tdVar 2) (tdC (.int 3))) (tdCons (tdTup (tdCons (tdC (.int 3)) tdNil)) (tdCons (tdTup tdNil) tdNil))) g_law_twice)))
    (tdSeq (tdSet 3 (tdBin addD (tdVar 3) (tdCall (tdCons (tdLc (tdIt (tdBin ixD (tdVar 2) (tdC (.int 4)))) (putD 4) (fun _ R => R true) (tdBin ixD (tdVar 4) (tdC (.int 0))) (([("mode", 4)] : List (Str × Nat)).map (·.2))) (tdCons (tdTup (tdCons (tdC (.int 4)) tdNil)) (tdCons (tdTup (tdCons (tdC (.int 0)) tdNil)) tdNil))) g_law_twice)))
    (tdSeq (tdFor (tdEnum (tdBin ixD (tdVar 2) (tdC (.int 4)))) (gdTup 2 (gdCons (putD 5) (gdCons (putD 4) gdNil))) (tdFor (tdEnum (tdBin ixD (tdVar 4) (tdC (.int 2)))) (gdTup 2 (gdCons (putD 6) (gdCons (putD 7) gdNil))) (tdSet 3 (tdBin addD (tdVar 3) (tdCall (tdCons (tdVar 0) (tdCons (tdVar 1) (tdCons (tdVar 2) (tdCons (tdVar 7) (tdCons (tdTup (tdCons (tdC (.int 4)) (tdCons (tdVar 5) (tdCons (tdC (.int 2)) (tdCons (tdVar 6) tdNil))))) tdNil))))) g_law_rule_wrong)))))
    (tdRet (tdIf (tdB (tdBin (eqD true) (tdVar 3) (tdLst tdNil))) (tdBin ixD (tdVar 3) (tdC (.int 0))) (tdC .none))))))
theorem own_law_wrong (R : Raw K mg "_law_wrong" s_law_wrong p_law_wrong) (O_law_acts_wrong : Own P w K mg base 1 "_law_acts_wrong" p_law_acts_wrong (spD K g_law_acts_wrong)) (O_law_rule_wrong : Own P w K mg base 9 "_law_rule_wrong" p_law_rule_wrong (spD K g_law_rule_wrong)) (O_law_twice : Own P w K mg base 1 "_law_twice" p_law_twice (spD K g_law_twice)) (x_enumerate : mg "enumerate" = none)
    (len : ∀ ds R, g_law_wrong ds R → ds.length = p_law_wrong.length) (sem : ∀ ds R, g_law_wrong ds R → t_law_wrong { nx := fun _ => R .none false, rt := R } (startD N_law_wrong ds)) : Own P w K mg base 10 "_law_wrong" p_law_wrong (spD K g_law_wrong) := by
  obtain ⟨f_law_acts_wrong, fd_law_acts_wrong, F_law_acts_wrong, m_law_acts_wrong, k_law_acts_wrong, b_law_acts_wrong⟩ := O_law_acts_wrong.ex
  obtain ⟨f_law_rule_wrong, fd_law_rule_wrong, F_law_rule_wrong, m_law_rule_wrong, k_law_rule_wrong, b_law_rule_wrong⟩ := O_law_rule_wrong.ex
  obtain ⟨f_law_twice, fd_law_twice, F_law_twice, m_law_twice, k_law_twice, b_law_twice⟩ := O_law_twice.ex
  exact own_d (t := t_law_wrong) R sc_law_wrong len (fun f cdv A outer s H E G hr hG =>
    (dss_cons (ds_set 3 sc_law_wrong.nd (de_op od_add (de_call F_law_acts_wrong (hr.mono (by decide)) hG m_law_acts_wrong k_law_acts_wrong b_law_acts_wrong pass0 (da_cons (de_var 1) (da_cons (de_ix (de_var 2) de_int) (da_cons (de_tup (da_cons de_int da_nil)) da_nil)))) (de_call F_law_twice (hr.mono (by decide)) hG m_law_twice k_law_twice b_law_twice pass0 (da_cons (de_ix (de_var 2) de_int) (da_cons (de_tup (da_cons de_int da_nil)) (da_cons (de_tup da_nil) da_nil))))))
    (dss_cons (ds_set 3 sc_law_wrong.nd (de_op od_add (de_var 3) (de_call F_law_twice (hr.mono (by decide)) hG m_law_twice k_law_twice b_law_twice pass0 (da_cons (de_lc rfl sc_law_wrong.nd (blkOk_by (own := [("mode", 4)]) (N := N_law_wrong) (sc := defScope s_law_wrong) (by decide +kernel)) (di_any (de_ix (de_var 2) de_int)) (fun _ _ _ _ _ _ => (dg_name 4 sc_law_wrong.nd)) (fun _ _ _ _ _ _ => dts_nil) (fun _ _ _ _ _ _ => (de_ix (de_var 4) de_int))) (da_cons (de_tup (da_cons de_int da_nil)) (da_cons (de_tup (da_cons de_int da_nil)) da_nil))))))
    (dss_cons (ds_for PassesOwn.never rfl (di_enumerate x_enumerate (de_ix (de_var 2) de_int)) (fun _ => (dg_tup rfl (dgs_cons (dg_name 5 sc_law_wrong.nd) (dgs_cons (dg_name 4 sc_law_wrong.nd) dgs_nil)))) (fun _ => (dss_one (ds_for PassesOwn.never rfl (di_enumerate x_enumerate (de_ix (de_var 4) de_int)) (fun _ => (dg_tup rfl (dgs_cons (dg_name 6 sc_law_wrong.nd) (dgs_cons (dg_name 7 sc_law_wrong.nd) dgs_nil)))) (fun _ => (dss_one (ds_set 3 sc_law_wrong.nd (de_op od_add (de_var 3) (de_call F_law_rule_wrong (hr.mono (by decide)) hG m_law_rule_wrong k_law_rule_wrong b_law_rule_wrong pass0 (da_cons (de_var 0) (da_cons (de_var 1) (da_cons (de_var 2) (da_cons (de_var 7) (da_cons (de_tup (da_cons de_int (da_cons (de_var 5) (da_cons de_int (da_cons (de_var 6) da_nil))))) da_nil))))))))))))))
    (dss_one (ds_ret (de_if (dt_cmp (od_ne hr.units) (nomark _) (de_var 3) (de_lst da_nil)) (de_ix (de_var 3) de_int) de_non))))))) sem
def t_law_bent : TSd :=
  (tdSeq (tdAsg (tdVar 1) (gdTup 5 (gdCons (putD 2) (gdCons (putD 3) (gdCons (putD 4) (gdCons (putD 5) (gdCons (putD 6) gdNil)))))))
    (tdSeq (tdPar 7 8 (tdCallS 0 (tdCons (tdC (.int 11)) tdNil) g_law_pick) (tdCallS 0 (tdCons (tdCB (tdCons (tdVar 6) tdNil) (c1 lenD)) tdNil) g_law_pick))
    (tdSeq (tdIfS (tdB (tdBin (eqD false) (tdVar 7) (tdC (.int 0)))) (tdRet (tdTup (tdCons (tdVar 2) (tdCons (tdVar 3) (tdCons (tdBin addD (tdVar 4) (tdTup (tdCons (tdCallS 0 (tdCons (tdLst (tdCons (tdC (.str "zz")) (tdCons (tdC (.str "zz-")) (tdCons (tdC (.str "x-")) tdNil)))) tdNil) g_law_of) tdNil))) (tdCons (tdVar 5) (tdCons (tdVar 6) tdNil))))))) tdNext)
    (tdSeq (tdIfS (tdB (tdBin (eqD false) (tdVar 7) (tdC (.int 1)))) (tdRet (tdTup (tdCons (tdVar 2) (tdCons (tdVar 3) (tdCons (tdVar 4) (tdCons (tdBin addD (tdVar 5) (tdSl (tdVar 5) tdO0 (tdO1 (tdC (.int 1))))) (tdCons (tdVar 6) tdNil))))))) tdNext)
    (tdSeq (tdIfS (tdB (tdBin (eqD false) (tdVar 7) (tdC (.int 2)))) (tdRet (tdTup (tdCons (tdVar 2) (tdCons (tdVar 3) (tdCons (tdVar 4) (tdCons (tdVar 5) (tdCons (tdBin addD (tdVar 6) (tdSl (tdVar 6) (tdO1 (tdVar 8)) (tdO1 (tdBin addD (tdVar 8) (tdC (.int 1)))))) tdNil))))))) tdNext)
    (tdSeq (tdIfS (tdB (tdBin (eqD false) (tdVar 7) (tdC (.int 3)))) (tdRet (tdTup (tdCons (tdVar 2) (tdCons (tdVar 3) (tdCons (tdVar 4) (tdCons (tdSl (tdVar 5) (tdO1 (tdC (.int 1))) tdO0) (tdCons (tdVar 6) tdNil))))))) tdNext)
    (tdSeq (tdSet 9 (tdBin ixD (tdBin ixD (tdVar 6) (tdVar 8)) (tdC (.int 2))))
    (tdSeq (tdIfS (tdB (tdBin (eqD false) (tdVar 9) (tdTup tdNil))) (tdRetVar 1) tdNext)
    (tdSeq (tdSet 10 (tdCallS 0 (tdCons (tdCB (tdCons (tdVar 9) tdNil) (c1 lenD)) tdNil) g_law_pick))
    (tdSeq (tdAsg (tdBin ixD (tdVar 9) (tdVar 10)) (gdTup 3 (gdCons (putD 11) (gdCons (putD 12) (gdCons (putD 13) gdNil)))))
    (tdSeq (tdSet 14 (tdLst (tdCons (tdTup (tdCons (tdC (.str "do")) (tdCons (tdTup (tdCons (tdC (.str "x")) (tdCons (tdC (.str "zz-")) tdNil))) tdNil))) (tdCons (tdTup (tdCons (tdC (.str "set")) (tdCons (tdC (.str "zz")) tdNil))) (tdCons (tdTup (tdCons (tdC (.str "clear")) (tdCons (tdBin ixD (tdVar 5) (tdC (.int 0))) tdNil))) (tdCons (tdTup (tdCons (tdC (.str "go")) (tdCons (tdC (.str "zz")) tdNil))) (tdCons (tdTup (tdCons (tdC (.str "go")) (tdCons (tdBin ixD (tdBin ixD (tdVar 6) (tdC (.int 0))) (tdC (.int 0))) tdNil))) (tdCons (tdTup (tdCons (tdC (.str "do")) (tdCons (tdTup (tdCons (tdC (.str "x")) tdNil)) tdNil))) tdNil))))))))
    (tdSeq (tdIfS (tdB (tdBin (eqD false) (tdVar 7) (tdC (.int 4)))) (tdSet 11 (tdC (.str "zz"))) (tdIfS (tdB (tdBin (eqD false) (tdVar 7) (tdC (.int 5)))) (tdSet 12 (tdTup (tdCons (tdC (.str "and")) (tdCons (tdVar 12) (tdCons (tdTup (tdCons (tdC (.str "not")) (tdCons (tdTup (tdCons (tdC (.str "flag")) (tdCons (tdCallS 0 (tdCons (tdLst (tdCons (tdC (.str "zz")) (tdCons (tdBin ixD (tdVar 5) (tdC (.int 0))) tdNil))) tdNil) g_law_of) tdNil))) tdNil))) tdNil))))) (tdIfS (tdB (tdBin (ltD) (tdVar 7) (tdC (.int 9)))) (tdSet 13 (tdBin addD (tdVar 13) (tdTup (tdCons (tdCallS 0 (tdCons (tdVar 14) tdNil) g_law_of) tdNil)))) (tdSet 13 (tdBin addD (tdBin addD (tdTup (tdCons (tdCallS 0 (tdCons (tdVar 14) tdNil) g_law_of) tdNil)) (tdVar 13)) (tdTup (tdCons (tdCallS 0 (tdCons (tdVar 14) tdNil) g_law_of) tdNil)))))))
    (tdSeq (tdSet 15 (tdBin addD (tdSl (tdBin ixD (tdVar 6) (tdVar 8)) tdO0 (tdO1 (tdC (.int 2)))) (tdTup (tdCons (tdBin addD (tdBin addD (tdSl (tdVar 9) tdO0 (tdO1 (tdVar 10))) (tdTup (tdCons (tdTup (tdCons (tdVar 11) (tdCons (tdVar 12) (tdCons (tdVar 13) tdNil)))) tdNil))) (tdSl (tdVar 9) (tdO1 (tdBin addD (tdVar 10) (tdC (.int 1)))) tdO0)) tdNil))))
    (tdRet (tdTup (tdCons (tdVar 2) (tdCons (tdVar 3) (tdCons (tdVar 4) (tdCons (tdVar 5) (tdCons (tdBin addD (tdBin addD (tdSl (tdVar 6) tdO0 (tdO1 (tdVar 8))) (tdTup (tdCons (tdVar 15) tdNil))) (tdSl (tdVar 6) (tdO1 (tdBin addD (tdVar 8) (tdC (.int 1)))) tdO0)) tdNil))))))))))))))))))))
theorem own_law_bent (R : Raw K mg "_law_bent" s_law_bent p_law_bent) (O_law_of : Own P w K mg base 2 "_law_of" p_law_of (spS K g_law_of)) (O_law_pick : Own P w K mg base 1 "_law_pick" ["source", "many"] (spS K g_law_pick)) (x_len : mg "len" = none)
    (len : ∀ ds R, g_law_bent ds R → ds.length + 1 = p_law_bent.length) (sem : ∀ ds R, g_law_bent ds R → t_law_bent { nx := fun _ => R .none false, rt := R } (startS N_law_bent ds)) : Own P w K mg base 3 "_law_bent" p_law_bent (spS K g_law_bent) := by
  obtain ⟨f_law_of, fd_law_of, F_law_of, m_law_of, k_law_of, b_law_of⟩ := O_law_of.ex
  obtain ⟨f_law_pick, fd_law_pick, F_law_pick, m_law_pick, k_law_pick, b_law_pick⟩ := O_law_pick.ex
  exact own_s (t := t_law_bent) R sc_law_bent len (fun f cdv A outer s H E G hr hG =>
    (dss_cons (ds_asg (de_var 1) (dg_tup rfl (dgs_cons (dg_name 2 sc_law_bent.nd) (dgs_cons (dg_name 3 sc_law_bent.nd) (dgs_cons (dg_name 4 sc_law_bent.nd) (dgs_cons (dg_name 5 sc_law_bent.nd) (dgs_cons (dg_name 6 sc_law_bent.nd) dgs_nil)))))))
    (dss_cons (ds_par 7 8 rfl sc_law_bent.nd (de_callS 0 F_law_pick (hr.mono (by decide)) hG m_law_pick k_law_pick b_law_pick pass0 (da_cons de_int da_nil)) (fun _ => (de_callS 0 F_law_pick (hr.mono (by decide)) hG m_law_pick k_law_pick b_law_pick pass0 (da_cons (de_callB cd_len x_len (by decide +kernel) (da_cons (de_var 6) da_nil)) da_nil))))
    (dss_cons (ds_if (dt_cmp (od_eq hr.units) (nomark _) (de_var 7) de_int) (dss_one (ds_ret (de_tup (da_cons (de_var 2) (da_cons (de_var 3) (da_cons (de_op od_add (de_var 4) (de_tup (da_cons (de_callS 0 F_law_of (hr.mono (by decide)) hG m_law_of k_law_of b_law_of pass0 (da_cons (de_lst (da_cons de_str (da_cons de_str (da_cons de_str da_nil)))) da_nil)) da_nil))) (da_cons (de_var 5) (da_cons (de_var 6) da_nil)))))))) dss_nil)
    (dss_cons (ds_if (dt_cmp (od_eq hr.units) (nomark _) (de_var 7) de_int) (dss_one (ds_ret (de_tup (da_cons (de_var 2) (da_cons (de_var 3) (da_cons (de_var 4) (da_cons (de_op od_add (de_var 5) (de_sl (de_var 5) do_none (do_some de_int))) (da_cons (de_var 6) da_nil)))))))) dss_nil)
    (dss_cons (ds_if (dt_cmp (od_eq hr.units) (nomark _) (de_var 7) de_int) (dss_one (ds_ret (de_tup (da_cons (de_var 2) (da_cons (de_var 3) (da_cons (de_var 4) (da_cons (de_var 5) (da_cons (de_op od_add (de_var 6) (de_sl (de_var 6) (do_some (de_var 8)) (do_some (de_op od_add (de_var 8) de_int)))) da_nil)))))))) dss_nil)
    (dss_cons (ds_if (dt_cmp (od_eq hr.units) (nomark _) (de_var 7) de_int) (dss_one (ds_ret (de_tup (da_cons (de_var 2) (da_cons (de_var 3) (da_cons (de_var 4) (da_cons (de_sl (de_var 5) (do_some de_int) do_none) (da_cons (de_var 6) da_nil)))))))) dss_nil)
    (dss_cons (ds_set 9 sc_law_bent.nd (de_ix (de_ix (de_var 6) (de_var 8)) de_int))
    (dss_cons (ds_if (dt_cmp (od_eq hr.units) (nomark _) (de_var 9) (de_tup da_nil)) (dss_one (ds_retVar 1)) dss_nil)
    (dss_cons (ds_set 10 sc_law_bent.nd (de_callS 0 F_law_pick (hr.mono (by decide)) hG m_law_pick k_law_pick b_law_pick pass0 (da_cons (de_callB cd_len x_len (by decide +kernel) (da_cons (de_var 9) da_nil)) da_nil)))
    (dss_cons (ds_asg (de_ix (de_var 9) (de_var 10)) (dg_tup rfl (dgs_cons (dg_name 11 sc_law_bent.nd) (dgs_cons (dg_name 12 sc_law_bent.nd) (dgs_cons (dg_name 13 sc_law_bent.nd) dgs_nil)))))
    (dss_cons (ds_set 14 sc_law_bent.nd (de_lst (da_cons (de_tup (da_cons de_str (da_cons (de_tup (da_cons de_str (da_cons de_str da_nil))) da_nil))) (da_cons (de_tup (da_cons de_str (da_cons de_str da_nil))) (da_cons (de_tup (da_cons de_str (da_cons (de_ix (de_var 5) de_int) da_nil))) (da_cons (de_tup (da_cons de_str (da_cons de_str da_nil))) (da_cons (de_tup (da_cons de_str (da_cons (de_ix (de_ix (de_var 6) de_int) de_int) da_nil))) (da_cons (de_tup (da_cons de_str (da_cons (de_tup (da_cons de_str da_nil)) da_nil))) da_nil))))))))
    (dss_cons (ds_if (dt_cmp (od_eq hr.units) (nomark _) (de_var 7) de_int) (dss_one (ds_set 11 sc_law_bent.nd de_str)) (dss_one (ds_if (dt_cmp (od_eq hr.units) (nomark _) (de_var 7) de_int) (dss_one (ds_set 12 sc_law_bent.nd (de_tup (da_cons de_str (da_cons (de_var 12) (da_cons (de_tup (da_cons de_str (da_cons (de_tup (da_cons de_str (da_cons (de_callS 0 F_law_of (hr.mono (by decide)) hG m_law_of k_law_of b_law_of pass0 (da_cons (de_lst (da_cons de_str (da_cons (de_ix (de_var 5) de_int) da_nil))) da_nil)) da_nil))) da_nil))) da_nil)))))) (dss_one (ds_if (dt_cmp od_lt (nomark _) (de_var 7) de_int) (dss_one (ds_set 13 sc_law_bent.nd (de_op od_add (de_var 13) (de_tup (da_cons (de_callS 0 F_law_of (hr.mono (by decide)) hG m_law_of k_law_of b_law_of pass0 (da_cons (de_var 14) da_nil)) da_nil))))) (dss_one (ds_set 13 sc_law_bent.nd (de_op od_add (de_op od_add (de_tup (da_cons (de_callS 0 F_law_of (hr.mono (by decide)) hG m_law_of k_law_of b_law_of pass0 (da_cons (de_var 14) da_nil)) da_nil)) (de_var 13)) (de_tup (da_cons (de_callS 0 F_law_of (hr.mono (by decide)) hG m_law_of k_law_of b_law_of pass0 (da_cons (de_var 14) da_nil)) da_nil))))))))))
    (dss_cons (ds_set 15 sc_law_bent.nd (de_op od_add (de_sl (de_ix (de_var 6) (de_var 8)) do_none (do_some de_int)) (de_tup (da_cons (de_op od_add (de_op od_add (de_sl (de_var 9) do_none (do_some (de_var 10))) (de_tup (da_cons (de_tup (da_cons (de_var 11) (da_cons (de_var 12) (da_cons (de_var 13) da_nil)))) da_nil))) (de_sl (de_var 9) (do_some (de_op od_add (de_var 10) de_int)) do_none)) da_nil))))
    (dss_one (ds_ret (de_tup (da_cons (de_var 2) (da_cons (de_var 3) (da_cons (de_var 4) (da_cons (de_var 5) (da_cons (de_op od_add (de_op od_add (de_sl (de_var 6) do_none (do_some (de_var 8))) (de_tup (da_cons (de_var 15) da_nil))) (de_sl (de_var 6) (do_some (de_op od_add (de_var 8) de_int)) do_none)) da_nil)))))))))))))))))))))) sem
def t_law_lots : TSd :=
  (tdSeq (tdSet 1 (tdLst (tdCons (tdTup tdNil) tdNil)))
    (tdSeq (tdFor (tdItVar 0) (putD 2) (tdSet 1 (tdBin addD (tdVar 1) (tdLc (tdItVar 1) (putD 3) (fun _ R => R true) (tdBin addD (tdVar 3) (tdTup (tdCons (tdVar 2) tdNil))) (([("lot", 3)] : List (Str × Nat)).map (·.2))))))
    (tdRetVar 1)))
theorem own_law_lots (R : Raw K mg "_law_lots" s_law_lots p_law_lots)
    (len : ∀ ds R, g_law_lots ds R → ds.length = p_law_lots.length) (sem : ∀ ds R, g_law_lots ds R → t_law_lots { nx := fun _ => R .none false, rt := R } (startD N_law_lots ds)) : Own P w K mg base 1 "_law_lots" p_law_lots (spD K g_law_lots) := by
  exact own_d (t := t_law_lots) R sc_law_lots len (fun f cdv A outer s H E G hr hG =>
    (dss_cons (ds_set 1 sc_law_lots.nd (de_lst (da_cons (de_tup da_nil) da_nil)))
    (dss_cons (ds_for PassesOwn.never rfl (di_var 0) (fun _ => (dg_name 2 sc_law_lots.nd)) (fun _ => (dss_one (ds_set 1 sc_law_lots.nd (de_op od_add (de_var 1) (de_lc rfl sc_law_lots.nd (blkOk_by (own := [("lot", 3)]) (N := N_law_lots) (sc := defScope s_law_lots) (by decide +kernel)) (di_var 1) (fun _ _ _ _ _ _ => (dg_name 3 sc_law_lots.nd)) (fun _ _ _ _ _ _ => dts_nil) (fun _ _ _ _ _ _ => (de_op od_add (de_var 3) (de_tup (da_cons (de_var 2) da_nil))))))))))
    (dss_one (ds_retVar 1))))) sem
def t_law : TSd :=
  (tdSeq (tdFor (tdRg1 (tdC (.int 3))) (putD 2) (tdSeq (tdSet 3 (tdCallS 1 (tdCons (tdLst (tdCons (tdTup (tdCons (tdC (.str "a")) tdNil)) (tdCons (tdTup (tdCons (tdC (.str "a")) (tdCons (tdC (.str "b")) tdNil))) (tdCons (tdTup (tdCons (tdC (.str "b")) (tdCons (tdC (.str "x")) tdNil))) tdNil)))) tdNil) g_law_of))
    (tdSeq (tdSet 4 (tdCallS 1 (tdCons (tdLst (tdCons (tdTup (tdCons (tdC (.str "x")) tdNil)) (tdCons (tdTup (tdCons (tdC (.str "x")) (tdCons (tdC (.str "y")) tdNil))) (tdCons (tdTup (tdCons (tdC (.str "y")) (tdCons (tdC (.str "x")) tdNil))) tdNil)))) tdNil) g_law_of))
    (tdSeq (tdSet 5 (tdCallS 1 (tdCons (tdVar 3) (tdCons (tdVar 4) (tdCons (tdC (.str "p")) tdNil))) g_law_flagged))
    (tdSeq (tdPar 6 7 (tdCB (tdCons (tdVar 5) tdNil) (c1 reprD)) (tdCall (tdCons (tdBin ixD (tdVar 5) (tdC (.int 3))) tdNil) g_law_lots))
    (tdSeq (tdIfS (tdOr (tdB (tdBin (isN true) (tdCall (tdCons (tdVar 3) (tdCons (tdVar 4) (tdCons (tdVar 5) tdNil))) g_wrong_program) (tdC .none))) (tdB (tdBin (isN true) (tdCall (tdCons (tdVar 3) (tdCons (tdVar 4) (tdCons (tdVar 5) tdNil))) g_law_wrong) (tdC .none)))) (tdRet (tdC (.bool false))) tdNext)
    (tdSeq (tdIfS (tdB (tdBin (eqD true) (tdCB (tdCons (tdCall (tdCons (tdVar 5) tdNil) g_first_stand) tdNil) (c1 reprD)) (tdCB (tdCons (tdTup (tdCons (tdBin ixD (tdBin ixD (tdBin ixD (tdVar 5) (tdC (.int 4))) (tdC (.int 0))) (tdC (.int 0))) (tdCons (tdTup tdNil) tdNil))) tdNil) (c1 reprD)))) (tdRet (tdC (.bool false))) tdNext)
    (tdSeq (tdFor (tdRg1 (tdC (.int 5))) (putD 8) (tdSeq (tdPar 9 10 (tdCallS 1 (tdCons (tdBin ixD (tdVar 5) (tdC (.int 3))) (tdCons (tdC (.int 3)) tdNil)) (g_law_condition 5)) (tdCallS 1 (tdCons (tdVar 7) tdNil) g_law_of))
    (tdSeq (tdSet 11 (tdLst (tdCons (tdCall (tdCons (tdVar 9) (tdCons (tdTup (tdCons (tdC (.int 1)) tdNil)) tdNil)) g_conditions_in) (tdCons (tdCall (tdCons (tdVar 9) tdNil) g_flags_looked_at) tdNil))))
    (tdSeq (tdIfS (tdB (tdBin (eqD true) (tdCB (tdCons (tdVar 11) tdNil) (c1 reprD)) (tdCB (tdCons (tdLst (tdCons (tdCall (tdCons (tdVar 9) (tdCons (tdTup (tdCons (tdC (.int 1)) tdNil)) tdNil)) (g_law_parts 8)) (tdCons (tdCall (tdCons (tdVar 9) tdNil) g_law_flag_names) tdNil))) tdNil) (c1 reprD)))) (tdRet (tdC (.bool false))) tdNext)
    (tdSeq (tdIfS (tdB (tdBin (eqD true) (tdCB (tdCons (tdLc (tdItVar 7) (putD 16) (fun _ R => R true) (tdCall (tdCons (tdVar 9) (tdCons (tdVar 16) tdNil)) g_holds) (([("one", 16)] : List (Str × Nat)).map (·.2))) tdNil) (c1 reprD)) (tdCB (tdCons (tdLc (tdItVar 7) (putD 16) (fun _ R => R true) (tdCall (tdCons (tdVar 9) (tdCons (tdVar 16) tdNil)) (g_law_holds 8)) (([("one", 16)] : List (Str × Nat)).map (·.2))) tdNil) (c1 reprD)))) (tdRet (tdC (.bool false))) tdNext)
    (tdSeq (tdPar 12 13 (tdTup (tdCons (tdCallS 1 (tdCons (tdLc (tdIt (tdBin ixD (tdVar 5) (tdC (.int 4)))) (putD 17) (fun _ R => R true) (tdBin ixD (tdVar 17) (tdC (.int 0))) (([("mode", 17)] : List (Str × Nat)).map (·.2))) tdNil) g_law_of) (tdCons (tdVar 10) tdNil))) (tdCallS 1 (tdCons (tdVar 3) tdNil) g_law_of))
    (tdIfS (tdB (tdBin (eqD true) (tdCB (tdCons (tdCall (tdCons (tdVar 5) (tdCons (tdVar 12) (tdCons (tdVar 13) tdNil))) g_name_read) tdNil) (c1 reprD)) (tdCB (tdCons (tdCall (tdCons (tdVar 5) (tdCons (tdVar 12) (tdCons (tdVar 13) tdNil))) g_law_read) tdNil) (c1 reprD)))) (tdRet (tdC (.bool false))) tdNext)))))))
    (tdSeq (tdFor (tdRg1 (tdC (.int 5))) (putD 8) (tdSeq (tdSet 14 (tdCallS 1 (tdCons (tdVar 5) tdNil) g_law_bent))
    (tdSeq (tdSet 14 (tdIf (tdAnd (tdB (tdBin (eqD false) (tdCallS 1 (tdCons (tdC (.int 3)) tdNil) g_law_pick) (tdC (.int 0)))) (tdB (tdChain (ltD) (ltD) (tdC (.int 0)) (tdCB (tdCons (tdBin ixD (tdVar 14) (tdC (.int 3))) tdNil) (c1 lenD)) (tdC (.int 4))))) (tdCallS 1 (tdCons (tdVar 14) tdNil) g_law_bent) (tdVar 14)))
    (tdIfS (tdB (tdBin (eqD true) (tdCB (tdCons (tdCall (tdCons (tdVar 3) (tdCons (tdVar 4) (tdCons (tdVar 14) tdNil))) g_wrong_program) tdNil) (c1 reprD)) (tdCB (tdCons (tdCall (tdCons (tdVar 3) (tdCons (tdVar 4) (tdCons (tdVar 14) tdNil))) g_law_wrong) tdNil) (c1 reprD)))) (tdRet (tdC (.bool false))) tdNext))))
    (tdIfS (tdB (tdBin (eqD true) (tdCB (tdCons (tdVar 5) tdNil) (c1 reprD)) (tdVar 6))) (tdRet (tdC (.bool false))) tdNext))))))))))
    (tdSeq (tdSet 15 (tdTup (tdCons (tdC (.str "a")) (tdCons (tdTup (tdCons (tdC (.str "flag")) (tdCons (tdC (.str "s")) tdNil))) (tdCons (tdTup (tdCons (tdTup (tdCons (tdC (.str "do")) (tdCons (tdTup (tdCons (tdC (.str "x")) tdNil)) tdNil))) tdNil)) tdNil)))))
    (tdSeq (tdSet 11 (tdLst (tdCons (tdCall (tdCons (tdTup (tdCons (tdC (.str "a")) tdNil)) (tdCons (tdTup (tdCons (tdC (.str "x")) tdNil)) (tdCons (tdTup (tdCons (tdC (.str "program")) (tdCons (tdC (.str "p")) (tdCons (tdTup tdNil) (tdCons (tdTup tdNil) (tdCons (tdTup (tdCons (tdTup (tdCons (tdC (.str "m")) (tdCons (tdC (.bool false)) (tdCons (tdTup (tdCons (tdVar 15) tdNil)) tdNil)))) tdNil)) tdNil)))))) tdNil))) g_wrong_program) tdNil)))
    (tdSeq (tdSet 15 (tdTup (tdCons (tdC (.str "a")) (tdCons (tdTup (tdCons (tdC (.str "any")) tdNil)) (tdCons (tdTup (tdCons (tdTup (tdCons (tdC (.str "do")) (tdCons (tdTup (tdCons (tdC (.str "x")) tdNil)) tdNil))) (tdCons (tdTup (tdCons (tdC (.str "do")) (tdCons (tdTup (tdCons (tdC (.str "x-")) tdNil)) tdNil))) tdNil))) tdNil)))))
    (tdSeq (tdAppend 11 (tdCall (tdCons (tdTup (tdCons (tdC (.str "a")) tdNil)) (tdCons (tdTup (tdCons (tdC (.str "x")) tdNil)) (tdCons (tdTup (tdCons (tdC (.str "program")) (tdCons (tdC (.str "p")) (tdCons (tdTup tdNil) (tdCons (tdTup tdNil) (tdCons (tdTup (tdCons (tdTup (tdCons (tdC (.str "m")) (tdCons (tdC (.bool false)) (tdCons (tdTup (tdCons (tdVar 15) tdNil)) tdNil)))) tdNil)) tdNil)))))) tdNil))) g_wrong_program))
    (tdRet (tdBin (eqD false) (tdCB (tdCons (tdVar 11) tdNil) (c1 reprD)) (tdCB (tdCons (tdLst (tdCons (tdTup (tdCons (tdTup (tdCons (tdC (.int 4)) (tdCons (tdC (.int 0)) (tdCons (tdC (.int 2)) (tdCons (tdC (.int 0)) (tdCons (tdC (.int 1)) (tdCons (tdC (.int 1)) tdNil))))))) (tdCons (tdC (.str "flag")) tdNil))) (tdCons (tdTup (tdCons (tdTup (tdCons (tdC (.int 4)) (tdCons (tdC (.int 0)) (tdCons (tdC (.int 2)) (tdCons (tdC (.int 0)) (tdCons (tdC (.int 2)) (tdCons (tdC (.int 1)) tdNil))))))) (tdCons (tdC (.str "deeds")) tdNil))) tdNil))) tdNil) (c1 reprD)))))))))
theorem own_law_source (R : Raw K mg "_law_source" s_law_source p_law_source) (x_int : mg "int" = none) (x_abs : mg "abs" = none) : Own P w K mg base 1 "_law_source" ["script"] (spSrc K) :=
  own_source R sc_law_source fun f cdv A outer s H E hr hG =>
    pss_cons (ps_set (i := 1) sc_law_source.nd rfl (by first | exact .inl rfl | exact .inr rfl) pe_int) (pss_cons (ps_for PassesOwn.never rfl (pi_list (pv 0)) (pg_name (i := 2) sc_law_source.nd rfl (by first | exact .inl rfl | exact .inr rfl)) (pss_one (ps_set (i := 1) sc_law_source.nd rfl (by first | exact .inl rfl | exact .inr rfl)
      (pe_op op_modN (pe_callTy call_int1 (by rfl) x_int (by decide +kernel) (pa_cons (pe_op op_add (pe_op op_add (pe_op op_mul (pv 1) pe_int) (pe_op op_mul (pv 2) pe_int)) pe_int) pa_nil)) pe_int))))
      (pss_one (ps_ret (pe_disp (pps_cons pe_str (pe_revL (pe_lc rfl sc_law_source.nd (pi_list (pv 0)) (blkOk_by (own := [("cell", 2)]) (N := N_law_source) (sc := defScope s_law_source) (by decide +kernel)) (fun _ _ _ _ _ => pg_name (i := 2) sc_law_source.nd rfl (by first | exact .inl rfl | exact .inr rfl)) (fun _ _ _ _ _ => pts_nil) (fun _ _ _ _ _ => pe_callB call_abs (by rfl) x_abs (by decide +kernel) (pa_cons (pv 2) pa_nil))))
        (pps_cons pe_str pe_int (pps_cons pe_str (pv 1) (pps_cons pe_str pe_int pps_nil)))) rfl rfl (by decide) (by decide)))))
theorem own_law_pick (R : Raw K mg "_law_pick" s_law_pick p_law_pick) (x_int : mg "int" = none) (x_len : mg "len" = none) (x_max : mg "max" = none) : Own P w K mg base 1 "_law_pick" ["source", "many"] (spS K g_law_pick) :=
  own_pick R sc_law_pick fun f cdv A outer s H E hr hG =>
    pss_cons (ps_while PassesOwn.never (pw_and (pt_cmpR op_gt (pv 1) pe_int (nomark _)) (pw_and (pt_cmpR op_lt (pe_dget (hu_of hr) (pv 0) pe_str (fun _ _ => rfl)) pe_int (nomark _)) (pw_and1 (pt_cmpR op_gt (pe_callB call_len (by rfl) x_len (by decide +kernel) (pa_cons (pe_dget (hu_of hr) (pv 0) pe_str (fun _ _ => rfl)) pa_nil)) pe_int (nomark _))))).pt (pss_one (ps_dput (hu_of hr) (pv 0) pe_str (pe_bm0 PySem.F.plainAttrs_list PySem.F.slot_list_pop PySem.F.type_list_pop mt_pop (pe_dget (hu_of hr) (pv 0) pe_str (fun _ _ => rfl))) (by rfl))))
      (pss_cons (ps_set (i := 2) sc_law_pick.nd rfl (by first | exact .inl rfl | exact .inr rfl) (pe_dget (hu_of hr) (pv 0) pe_str (fun _ _ => rfl))) (pss_cons (ps_if (pw_or (pt_cmpR op_lt (pv 1) pe_int (nomark _)) (pw_or1 (pt_cmpR op_gt (pv 2) pe_int (nomark _)))).pt (pss_cons (ps_dput (hu_of hr) (pv 0) pe_str (pe_op op_fdivN (pv 2) (pe_callB (call_max2 rfl) (by rfl) x_max (by decide +kernel) (pa_cons pe_int (pa_cons (pv 1) pa_nil)))) (by rfl)) (pss_one (ps_ret (pe_op op_modN (pe_callTy call_int1 (by rfl) x_int (by decide +kernel) (pa_cons (pv 2) pa_nil)) (pe_callB (call_max2 rfl) (by rfl) x_max (by decide +kernel) (pa_cons pe_int (pa_cons (pv 1) pa_nil))))))) pss_nil)
        (pss_cons (ps_dput (hu_of hr) (pv 0) pe_str (pe_op op_add (pe_dget (hu_of hr) (pv 0) pe_str (fun _ _ => rfl)) pe_int) (by rfl)) (pss_cons (ps_set (i := 3) sc_law_pick.nd rfl (by first | exact .inl rfl | exact .inr rfl) (pe_op op_modN (pe_callTy call_int1 (by rfl) x_int (by decide +kernel) (pa_cons (pe_op op_add (pe_dget (hu_of hr) (pv 0) pe_str (fun _ _ => rfl)) (pe_op op_mul (pe_dget (hu_of hr) (pv 0) pe_str (fun _ _ => rfl)) pe_int)) pa_nil)) pe_int)) (pss_cons (ps_set (i := 3) sc_law_pick.nd rfl (by first | exact .inl rfl | exact .inr rfl) (pe_op op_modN (pe_callTy call_int1 (by rfl) x_int (by decide +kernel) (pa_cons (pe_op op_add (pe_op op_mul (pv 3) (pv 3)) (pe_op op_mul (pe_dget (hu_of hr) (pv 0) pe_str (fun _ _ => rfl)) pe_int)) pa_nil)) pe_int)) (pss_cons (ps_dput (hu_of hr) (pv 0) pe_str (pv 3) (by rfl)) (pss_one (ps_ret (pe_op op_modN (pe_callTy call_int1 (by rfl) x_int (by decide +kernel) (pa_cons (pe_op op_fdivN (pv 3) pe_int) pa_nil)) (pv 1))))))))))
theorem own_law_mixed (R : Raw K mg "_law_mixed" s_law_mixed p_law_mixed) (O_law_pick : Own P w K mg base 1 "_law_pick" ["source", "many"] (spS K g_law_pick)) (x_len : mg "len" = none) (x_list : mg "list" = none) (x_range : mg "range" = none) : Own P w K mg base 2 "_law_mixed" ["source", "things"] (spS K g_law_mixed) := by
  obtain ⟨f_law_pick, fd_law_pick, F_law_pick, m_law_pick, k_law_pick, b_law_pick⟩ := O_law_pick.ex
  exact own_mixed R sc_law_mixed fun f cdv A outer s H E hr hG =>
    pss_cons (ps_set (i := 2) sc_law_mixed.nd rfl (by first | exact .inl rfl | exact .inr rfl) (pe_callTy call_list_of (by rfl) x_list (by decide +kernel) (pa_cons (pv 1) pa_nil)))
      (pss_one (ps_ret (pe_lc rfl sc_law_mixed.nd (pi_range1 (by rfl) x_range (pa_cons (pe_callB call_len (by rfl) x_len (by decide +kernel) (pa_cons (pv 2) pa_nil)) pa_nil)) (blkOk_by (own := [("lap", 3)]) (N := N_law_mixed) (sc := defScope s_law_mixed) (by decide +kernel)) (fun _ _ _ _ _ => pg_name (i := 3) sc_law_mixed.nd rfl (.inl rfl)) (fun _ _ _ _ _ => pts_nil)
        (fun _ _ _ _ _ => pe_bm PySem.F.plainAttrs_list PySem.F.slot_list_pop PySem.F.type_list_pop mt_popAt (pv 2) (pa_cons (pe_callD F_law_pick hr hG m_law_pick k_law_pick b_law_pick pass0 (pa_cons (pv 0) (pa_cons (pe_callB call_len (by rfl) x_len (by decide +kernel) (pa_cons (pv 2) pa_nil)) pa_nil)) (by rfl) (by decide) (by rfl) (by rfl)) pa_nil)))))
end
end Lw

set_option Elab.async false
set_option linter.all false
set_option maxRecDepth 100000
set_option maxHeartbeats 4000000
namespace Lw
open PySem PySem.Spec PyProof.Rows L2 DL
local macro_rules | `(tactic| walk_at "dl") => `(tactic| simp only [tdSeq, tdSet, tdAsg, tdPar, tdPar3, tdLc, tdItVar, tdIt, tdEnum, tdRg1, tdRg2, tdFor, tdRet, tdRetVar, tdRetN, tdNext, tdIf, tdIfS, tdAnd, tdOr, tdNot, tdAndV, tdOrV, tdNotV, tdB, tdBin, tdChain, tdVar, tdC, tdLst, tdNil, tdCons, tdStar, tdTup, tdNeg, tdSl, tdO0, tdO1, tdRev, tdCall, tdCallS, tdCB, tdIsi, tdAppend, tdExtendA, tdAsgPop, tdPop, tdAppNotPop, tdParPop, tdSetIx, tdAug, eqD, inD, ixD, isN, isNone, addD, subD, mulD, modD, fdivD, ltD, leD, gtD, geD, lenD, tupD, listD, DL.intD, reprD, absD, c1, startD, startS, gdTup, gdCons, gdNil, putD, List.map, List.replicate, List.length, wipeD, List.set, List.getElem?_cons_zero, List.getElem?_cons_succ, List.cons_append, List.nil_append, List.append_nil, Nat.sub_self, Nat.reduceSub, Nat.reduceAdd, List.getElem?_nil, Bool.and_true, Bool.true_and, Bool.false_and, Bool.and_false, Bool.or_true, Bool.true_or, Bool.or_false, Bool.false_or, if_true, Bool.false_eq_true, if_false, true_and, and_true, Bool.true_xor, Bool.false_xor, at0, at1, at2, at3, at4, Option.some.injEq, exists_eq_left', DL.addrs, Bool.not_true, true_or, or_true, Bool.not_false, id_eq, List.filterMap, imp_self, implies_true, lfAll, lf])
theorem en_first (p : D → Bool) (f : D → D) (P : Nat → Str → Bool) (F : Nat → D) (hp : ∀ (k : Nat) s, p (dT [dI k, dS s]) = P k s) (hf : ∀ (k : Nat) s, f (dT [dI k, dS s]) = F k) : ∀ (xs : List Str) (k : Nat), (((enD k (xs.map dS)).filter p).map f).head? = (fIx P k xs).map F
  | [], _ => rfl
  | x :: xs, k => by
    have ih := en_first p f P F hp hf xs (k + 1)
    rw [List.map_cons]
    unfold enD fIx
    rw [List.filter_cons, hp]
    cases h : P k x with
    | true => simp [hf]
    | false => simpa using ih
theorem sem_first_named : ∀ ds R, g_first_named ds R → t_first_named { nx := fun _ => R .none false, rt := R } (startD N_first_named ds) := by
  rintro _ R ⟨xs, rfl, hl, hz, r⟩
  unfold t_first_named
  walk_at "dl"
  refine lcGo_fm (fun x => !isNone x) id true xs [] true _ (fun x hx K1 K2 h1 h2 => ?_) (le_line (by simp; omega)) fun a' ha => ?_
  · cases x with
    | none => walk_at "dl"; exact h2 rfl
    | list ys => have := lf_all.mp hl _ hx; simp [lf] at this
    | tuple ys => walk_at "dl"; exact h1 rfl
    | dict _ => have := lf_all.mp hl _ hx; simp [lf] at this
    | _ => walk_at "dl"; exact h1 rfl
  · obtain rfl := ha rfl
    have hl' : lfAll (xs.filter fun x => !isNone x) = true := lf_all.mpr fun x hx => lf_all.mp hl x (List.mem_filter.mp hx).1
    rw [List.map_id, List.nil_append]
    generalize hq : (xs.filter fun x => !isNone x) = ys at r hl'
    walk_at "dl"
    rw [if_pos hl']
    intro p _
    refine ⟨le_line (by simp), min_nil _, ?_⟩
    rw [eqv_nil]
    cases ys with
    | nil => exact r
    | cons y ys => exact ⟨y, at0, r⟩
theorem len_first_named : ∀ ds R, g_first_named ds R → ds.length = p_first_named.length := by rintro _ R ⟨xs, rfl, _⟩; rfl
theorem last_of {s : Str} (h : s.cps.toList ≠ []) : ∃ c, s.cps.toList.getLast? = some c := ⟨_, List.getLast?_eq_some_getLast h⟩
theorem str_one (c : Nat) : ((⟨#[c]⟩ : Str) = ("-" : Str)) ↔ c = 45 := by
  constructor
  · intro h
    have h : (⟨#[c]⟩ : Str) = ⟨#[45]⟩ := h
    cases h; rfl
  · rintro rfl; rfl
theorem cut_all_but_last (s : Str) (h : s.cps.toList ≠ []) : cutS s none (some (-1)) = ⟨s.cps.toList.dropLast.toArray⟩ := by
  have hl : s.length = s.cps.toList.length := by show s.cps.size = _; simp
  have h0 : 0 < s.cps.toList.length := List.length_pos_iff.mpr h
  unfold cutS
  rw [HT.sIx_none, List.drop_zero, List.dropLast_eq_take]
  have e : HT.sIx s.length s.length (some (-1)) - 0 = s.cps.toList.length - 1 := by
    show (if (-1 : Int) < 0 then ((-1 : Int) + (s.length : Int)).toNat else min (-1 : Int).toNat s.length) - 0 = _
    rw [if_pos (by decide), hl]
    omega
  rw [e]
theorem sem_is_act_told : ∀ ds R, g_is_act_told ds R → t_is_act_told { nx := fun _ => R .none false, rt := R } (startD N_is_act_told ds) := by
  rintro _ R ⟨acts, s, rfl, ⟨hs, hl⟩, r⟩
  obtain ⟨c, hc⟩ := last_of hs
  have hl' : s.length ≤ sizeLine := le_line (by omega)
  unfold t_is_act_told
  walk_at "dl"
  have fin : ∀ x : Str, x = base s → (flatD (PyData.str x) = true ∧ (acts.map dS).all flatD = true) ∧ R (PyData.bool ((acts.map dS).any fun z => PyData.eqv z (PyData.str x))) false := fun x hx => by
    rw [any_strs, hx]
    exact ⟨⟨rfl, flat_strs acts⟩, r⟩
  refine ⟨hl', c, at_last hc, ?_⟩
  by_cases h45 : c = 45
  · rw [decide_eq_true ((str_one c).mpr h45), if_pos rfl]
    refine ⟨hl', fin _ ?_⟩
    rw [cut_all_but_last s hs]
    unfold base isU
    rw [hc, if_pos (by simp [h45])]
  · rw [decide_eq_false (fun z => h45 ((str_one c).mp z)), if_neg (by decide)]
    refine fin _ ?_
    unfold base isU
    rw [hc, if_neg (by simp [h45])]
theorem len_is_act_told : ∀ ds R, g_is_act_told ds R → ds.length = p_is_act_told.length := by rintro _ R ⟨_, _, rfl, _⟩; rfl
theorem lf_fault {pl : List D} {w : Str} (h : lfAll pl = true) : lf (fault pl w) = true := by simp [fault, lf, lfAll, h]
theorem sem_wrong_act : ∀ ds R, g_wrong_act ds R → t_wrong_act { nx := fun _ => R .none false, rt := R } (startD N_wrong_act ds) := by
  rintro _ R ⟨acts, row, pl, rfl, hr, hp, hz, hz2, r⟩
  unfold t_wrong_act
  walk_at "dl"
  refine lcGo_fm (fun x => match x with | .tuple [.int _, .str s] => !decide (base s ∈ acts) | _ => false) (fun x => match x with | .tuple [.int k, _] => dT (pl ++ [dI k]) | _ => .none) true (enD 0 (row.map dS)) [] true _ (fun x hx K1 K2 h1 h2 => ?_) (le_line (by rw [enD_len]; simp; omega)) fun a' ha => ?_
  · obtain ⟨i, y, hy, rfl⟩ := mem_enD hx
    rw [List.getElem?_map] at hy
    obtain ⟨s, hs, rfl⟩ := Option.map_eq_some_iff.mp hy
    walk_at "dl"
    refine ⟨acts, s, rfl, hr s (List.mem_of_getElem? hs), ?_⟩
    cases hq : decide (base s ∈ acts) with
    | true =>
      walk_at "dl"
      exact h2 (by simp [hq])
    | false =>
      walk_at "dl"
      exact ⟨le_line (by simp; omega), h1 (by simp [hq])⟩
  · obtain rfl := ha rfl
    rw [List.nil_append]
    have hd := en_first (fun x => match x with | .tuple [.int _, .str s] => !decide (base s ∈ acts) | _ => false) (fun x => match x with | .tuple [.int k, _] => dT (pl ++ [dI k]) | _ => .none) (fun _ x => !decide (base x ∈ acts)) (fun k => dT (pl ++ [dI k])) (fun _ _ => rfl) (fun _ _ => rfl) row 0
    have hlf : ∀ z ∈ (((enD 0 (row.map dS)).filter fun x => match x with | .tuple [.int _, .str s] => !decide (base s ∈ acts) | _ => false).map fun x => match x with | .tuple [.int k, _] => dT (pl ++ [dI k]) | _ => .none), lf z = true := fun z hz => by
      obtain ⟨x, hx, rfl⟩ := List.mem_map.mp hz
      obtain ⟨i, y, _, rfl⟩ := mem_enD (List.mem_filter.mp hx).1
      simp [lf, lfAll, lf_append, hp]
    revert hd hlf
    generalize (((enD 0 (row.map dS)).filter fun x => match x with | .tuple [.int _, .str s] => !decide (base s ∈ acts) | _ => false).map fun x => match x with | .tuple [.int k, _] => dT (pl ++ [dI k]) | _ => .none) = ys
    intro hd hlf
    walk_at "dl"
    rw [if_pos (lf_all.mpr hlf)]
    intro p _
    refine ⟨le_line (by simp), min_nil _, ?_⟩
    rw [eqv_nil]
    cases ys with
    | nil =>
      have : actF acts row pl = none := by
        unfold actF
        cases hf : fIx (fun _ x => !decide (base x ∈ acts)) 0 row with
        | none => rfl
        | some k => rw [hf] at hd; cases hd
      rw [this] at r
      exact r
    | cons y ys =>
      have : actF acts row pl = some (dT [y, dS "act"]) := by
        unfold actF
        cases hf : fIx (fun _ x => !decide (base x ∈ acts)) 0 row with
        | none => rw [hf] at hd; cases hd
        | some k =>
          rw [hf] at hd
          have hd : some y = some (dT (pl ++ [dI k])) := hd
          cases hd
          rfl
      rw [this] at r
      walk_at "dl"
      exact ⟨le_line (by simp), r⟩
theorem len_wrong_act : ∀ ds R, g_wrong_act ds R → ds.length = p_wrong_act.length := by rintro _ R ⟨_, _, _, rfl, _⟩; rfl
end Lw

set_option Elab.async false
set_option linter.all false
set_option maxRecDepth 100000
set_option maxHeartbeats 4000000
namespace Lw
open PySem PySem.Spec PyProof.Rows L2 DL
theorem kw_any_flag : (("any" : Str) = ("flag" : Str)) = False := eq_false (by decide)
theorem kw_any_not : (("any" : Str) = ("not" : Str)) = False := eq_false (by decide)
theorem kw_any_and : (("any" : Str) = ("and" : Str)) = False := eq_false (by decide)
theorem kw_any_or : (("any" : Str) = ("or" : Str)) = False := eq_false (by decide)
theorem kw_any_do : (("any" : Str) = ("do" : Str)) = False := eq_false (by decide)
theorem kw_any_go : (("any" : Str) = ("go" : Str)) = False := eq_false (by decide)
theorem kw_any_set : (("any" : Str) = ("set" : Str)) = False := eq_false (by decide)
theorem kw_any_clear : (("any" : Str) = ("clear" : Str)) = False := eq_false (by decide)
theorem kw_flag_any : (("flag" : Str) = ("any" : Str)) = False := eq_false (by decide)
theorem kw_flag_not : (("flag" : Str) = ("not" : Str)) = False := eq_false (by decide)
theorem kw_flag_and : (("flag" : Str) = ("and" : Str)) = False := eq_false (by decide)
theorem kw_flag_or : (("flag" : Str) = ("or" : Str)) = False := eq_false (by decide)
theorem kw_flag_do : (("flag" : Str) = ("do" : Str)) = False := eq_false (by decide)
theorem kw_flag_go : (("flag" : Str) = ("go" : Str)) = False := eq_false (by decide)
theorem kw_flag_set : (("flag" : Str) = ("set" : Str)) = False := eq_false (by decide)
theorem kw_flag_clear : (("flag" : Str) = ("clear" : Str)) = False := eq_false (by decide)
theorem kw_not_any : (("not" : Str) = ("any" : Str)) = False := eq_false (by decide)
theorem kw_not_flag : (("not" : Str) = ("flag" : Str)) = False := eq_false (by decide)
theorem kw_not_and : (("not" : Str) = ("and" : Str)) = False := eq_false (by decide)
theorem kw_not_or : (("not" : Str) = ("or" : Str)) = False := eq_false (by decide)
theorem kw_not_do : (("not" : Str) = ("do" : Str)) = False := eq_false (by decide)
theorem kw_not_go : (("not" : Str) = ("go" : Str)) = False := eq_false (by decide)
theorem kw_not_set : (("not" : Str) = ("set" : Str)) = False := eq_false (by decide)
theorem kw_not_clear : (("not" : Str) = ("clear" : Str)) = False := eq_false (by decide)
theorem kw_and_any : (("and" : Str) = ("any" : Str)) = False := eq_false (by decide)
theorem kw_and_flag : (("and" : Str) = ("flag" : Str)) = False := eq_false (by decide)
theorem kw_and_not : (("and" : Str) = ("not" : Str)) = False := eq_false (by decide)
theorem kw_and_or : (("and" : Str) = ("or" : Str)) = False := eq_false (by decide)
theorem kw_and_do : (("and" : Str) = ("do" : Str)) = False := eq_false (by decide)
theorem kw_and_go : (("and" : Str) = ("go" : Str)) = False := eq_false (by decide)
theorem kw_and_set : (("and" : Str) = ("set" : Str)) = False := eq_false (by decide)
theorem kw_and_clear : (("and" : Str) = ("clear" : Str)) = False := eq_false (by decide)
theorem kw_or_any : (("or" : Str) = ("any" : Str)) = False := eq_false (by decide)
theorem kw_or_flag : (("or" : Str) = ("flag" : Str)) = False := eq_false (by decide)
theorem kw_or_not : (("or" : Str) = ("not" : Str)) = False := eq_false (by decide)
theorem kw_or_and : (("or" : Str) = ("and" : Str)) = False := eq_false (by decide)
theorem kw_or_do : (("or" : Str) = ("do" : Str)) = False := eq_false (by decide)
theorem kw_or_go : (("or" : Str) = ("go" : Str)) = False := eq_false (by decide)
theorem kw_or_set : (("or" : Str) = ("set" : Str)) = False := eq_false (by decide)
theorem kw_or_clear : (("or" : Str) = ("clear" : Str)) = False := eq_false (by decide)
theorem kw_do_any : (("do" : Str) = ("any" : Str)) = False := eq_false (by decide)
theorem kw_do_flag : (("do" : Str) = ("flag" : Str)) = False := eq_false (by decide)
theorem kw_do_not : (("do" : Str) = ("not" : Str)) = False := eq_false (by decide)
theorem kw_do_and : (("do" : Str) = ("and" : Str)) = False := eq_false (by decide)
theorem kw_do_or : (("do" : Str) = ("or" : Str)) = False := eq_false (by decide)
theorem kw_do_go : (("do" : Str) = ("go" : Str)) = False := eq_false (by decide)
theorem kw_do_set : (("do" : Str) = ("set" : Str)) = False := eq_false (by decide)
theorem kw_do_clear : (("do" : Str) = ("clear" : Str)) = False := eq_false (by decide)
theorem kw_go_any : (("go" : Str) = ("any" : Str)) = False := eq_false (by decide)
theorem kw_go_flag : (("go" : Str) = ("flag" : Str)) = False := eq_false (by decide)
theorem kw_go_not : (("go" : Str) = ("not" : Str)) = False := eq_false (by decide)
theorem kw_go_and : (("go" : Str) = ("and" : Str)) = False := eq_false (by decide)
theorem kw_go_or : (("go" : Str) = ("or" : Str)) = False := eq_false (by decide)
theorem kw_go_do : (("go" : Str) = ("do" : Str)) = False := eq_false (by decide)
theorem kw_go_set : (("go" : Str) = ("set" : Str)) = False := eq_false (by decide)
theorem kw_go_clear : (("go" : Str) = ("clear" : Str)) = False := eq_false (by decide)
theorem kw_set_any : (("set" : Str) = ("any" : Str)) = False := eq_false (by decide)
theorem kw_set_flag : (("set" : Str) = ("flag" : Str)) = False := eq_false (by decide)
theorem kw_set_not : (("set" : Str) = ("not" : Str)) = False := eq_false (by decide)
theorem kw_set_and : (("set" : Str) = ("and" : Str)) = False := eq_false (by decide)
theorem kw_set_or : (("set" : Str) = ("or" : Str)) = False := eq_false (by decide)
theorem kw_set_do : (("set" : Str) = ("do" : Str)) = False := eq_false (by decide)
theorem kw_set_go : (("set" : Str) = ("go" : Str)) = False := eq_false (by decide)
theorem kw_set_clear : (("set" : Str) = ("clear" : Str)) = False := eq_false (by decide)
theorem kw_clear_any : (("clear" : Str) = ("any" : Str)) = False := eq_false (by decide)
theorem kw_clear_flag : (("clear" : Str) = ("flag" : Str)) = False := eq_false (by decide)
theorem kw_clear_not : (("clear" : Str) = ("not" : Str)) = False := eq_false (by decide)
theorem kw_clear_and : (("clear" : Str) = ("and" : Str)) = False := eq_false (by decide)
theorem kw_clear_or : (("clear" : Str) = ("or" : Str)) = False := eq_false (by decide)
theorem kw_clear_do : (("clear" : Str) = ("do" : Str)) = False := eq_false (by decide)
theorem kw_clear_go : (("clear" : Str) = ("go" : Str)) = False := eq_false (by decide)
theorem kw_clear_set : (("clear" : Str) = ("set" : Str)) = False := eq_false (by decide)
theorem eqvS (a b : Str) : PyData.eqv (.str a) (.str b) = decide (a = b) := by
  show (a == b) = _
  exact Bool.beq_eq_decide_eq a b
local macro_rules | `(tactic| walk_at "dl") => `(tactic| simp only [tdSeq, tdSet, tdAsg, tdPar, tdPar3, tdLc, tdItVar, tdIt, tdEnum, tdRg1, tdRg2, tdFor, tdRet, tdRetVar, tdRetN, tdNext, tdIf, tdIfS, tdAnd, tdOr, tdNot, tdAndV, tdOrV, tdNotV, tdB, tdBin, tdChain, tdVar, tdC, tdLst, tdNil, tdCons, tdStar, tdTup, tdNeg, tdSl, tdO0, tdO1, tdRev, tdCall, tdCallS, tdCB, tdIsi, tdAppend, tdExtendA, tdAsgPop, tdPop, tdAppNotPop, tdParPop, tdSetIx, tdAug, eqD, inD, ixD, isN, isNone, addD, subD, mulD, modD, fdivD, ltD, leD, gtD, geD, lenD, tupD, listD, DL.intD, reprD, absD, c1, startD, startS, gdTup, gdCons, gdNil, putD, List.map, List.replicate, List.length, wipeD, List.set, List.getElem?_cons_zero, List.getElem?_cons_succ, List.cons_append, List.nil_append, List.append_nil, Nat.sub_self, Nat.reduceSub, Nat.reduceAdd, List.getElem?_nil, Bool.and_true, Bool.true_and, Bool.false_and, Bool.and_false, Bool.or_true, Bool.true_or, Bool.or_false, Bool.false_or, if_true, Bool.false_eq_true, if_false, true_and, and_true, Bool.true_xor, Bool.false_xor, at0, at1, at2, at3, at4, Option.some.injEq, exists_eq_left', DL.addrs, Bool.not_true, true_or, or_true, Bool.not_false, id_eq, List.filterMap, imp_self, implies_true, lfAll, lf])
local macro_rules | `(tactic| walk_at "kw") => `(tactic| simp only [kw_any_flag, kw_any_not, kw_any_and, kw_any_or, kw_any_do, kw_any_go, kw_any_set, kw_any_clear, kw_flag_any, kw_flag_not, kw_flag_and, kw_flag_or, kw_flag_do, kw_flag_go, kw_flag_set, kw_flag_clear, kw_not_any, kw_not_flag, kw_not_and, kw_not_or, kw_not_do, kw_not_go, kw_not_set, kw_not_clear, kw_and_any, kw_and_flag, kw_and_not, kw_and_or, kw_and_do, kw_and_go, kw_and_set, kw_and_clear, kw_or_any, kw_or_flag, kw_or_not, kw_or_and, kw_or_do, kw_or_go, kw_or_set, kw_or_clear, kw_do_any, kw_do_flag, kw_do_not, kw_do_and, kw_do_or, kw_do_go, kw_do_set, kw_do_clear, kw_go_any, kw_go_flag, kw_go_not, kw_go_and, kw_go_or, kw_go_do, kw_go_set, kw_go_clear, kw_set_any, kw_set_flag, kw_set_not, kw_set_and, kw_set_or, kw_set_do, kw_set_go, kw_set_clear, kw_clear_any, kw_clear_flag, kw_clear_not, kw_clear_and, kw_clear_or, kw_clear_do, kw_clear_go, kw_clear_set, eq_self, decide_false, decide_true, Bool.false_eq_true, if_false, if_true, Bool.not_true, Bool.not_false, List.any_cons, List.any_nil, Bool.or_false, Bool.false_or, Bool.or_true, Bool.true_or, Bool.false_xor, Bool.true_xor, eqvS])
theorem lf_enc : ∀ c : Cd, lf c.enc = true
  | .any => rfl
  | .flag _ => rfl
  | .not a => by simp [Cd.enc, lf, lfAll, lf_enc a]
  | .and a b => by simp [Cd.enc, lf, lfAll, lf_enc a, lf_enc b]
  | .or a b => by simp [Cd.enc, lf, lfAll, lf_enc a, lf_enc b]
theorem lf_encP {x : List D × Cd} (h : lfAll x.1 = true) : lf (encP x) = true := by simp [encP, lf, lfAll, h, lf_enc]
def pE (P : Nat → Str → Bool) : D → Bool
  | .tuple [.int k, .str s] => P k.toNat s
  | _ => false
def fE (F : Nat → D) : D → D
  | .tuple [.int k, _] => F k.toNat
  | _ => .none
theorem en_firstE (P : Nat → Str → Bool) (F : Nat → D) (xs : List Str) (k : Nat) : (((enD k (xs.map dS)).filter (pE P)).map (fE F)).head? = (fIx P k xs).map F :=
  en_first (pE P) (fE F) P F (fun k s => by simp [pE]) (fun k s => by simp [fE]) xs k
theorem fE_lf {P : Nat → Str → Bool} {F : Nat → D} (h : ∀ k, lf (F k) = true) {xs : List D} : ∀ z ∈ ((enD 0 xs).filter (pE P)).map (fE F), lf z = true := fun z hz => by
  obtain ⟨x, hx, rfl⟩ := List.mem_map.mp hz
  obtain ⟨i, y, _, rfl⟩ := mem_enD (List.mem_filter.mp hx).1
  exact h _
theorem sem_first_twice : ∀ ds R, g_first_twice ds R → t_first_twice { nx := fun _ => R .none false, rt := R } (startD N_first_twice ds) := by
  rintro _ R ⟨d, ss, rfl, hd, hz, r⟩
  have fin : ∀ (ys : List D) (d : D), ys.head? = (fIx (fun k s => decide (s ∈ ss.take k)) 0 ss).map (fun k : Nat => dI (k : Int)) → (∀ z ∈ ys, lf z = true) →
      putD 1 (.list ys) true true [SD.d d, SD.un, SD.un, SD.un] (tdRet (tdIf (tdB (tdBin (eqD true) (tdVar 1) (tdLst tdNil))) (tdBin ixD (tdVar 1) (tdC (.int 0))) (tdC .none)) { nx := fun _ => R .none false, rt := R }) := fun ys d hd hlf => by
    walk_at "dl"
    rw [if_pos (lf_all.mpr hlf)]
    intro p _
    refine ⟨le_line (by simp), min_nil _, ?_⟩
    rw [eqv_nil]
    have ht : twF ss = fIx (fun k s => decide (s ∈ ss.take k)) 0 ss := rfl
    rw [ht, ← hd] at r
    cases ys with
    | nil => exact r
    | cons y ys => exact ⟨y, at0, r⟩
  have main : ∀ d : D, (d = .list (ss.map dS) ∨ d = .tuple (ss.map dS)) → lcGo (gdTup 2 (gdCons (putD 2) (gdCons (putD 3) gdNil))) (tdB (tdBin (inD false) (tdVar 3) (tdSl (tdVar 0) tdO0 (tdO1 (tdVar 2))))) (tdVar 2) [SD.d d, SD.un, SD.un, SD.un] (enD 0 (ss.map dS)) [] true fun acc a => putD 1 (.list acc) (a && true) true [SD.d d, SD.un, SD.un, SD.un]
        (tdRet (tdIf (tdB (tdBin (eqD true) (tdVar 1) (tdLst tdNil))) (tdBin ixD (tdVar 1) (tdC (.int 0))) (tdC .none)) { nx := fun _ => R .none false, rt := R }) := fun d hd => by
    refine lcGo_fm (pE fun k s => decide (s ∈ ss.take k)) (fE fun k : Nat => dI (k : Int)) true (enD 0 (ss.map dS)) [] true _ (fun x hx K1 K2 h1 h2 => ?_) (le_line (by rw [enD_len]; simp; omega)) fun a' ha => ?_
    · obtain ⟨i, y, hy, rfl⟩ := mem_enD hx
      rw [List.getElem?_map] at hy
      obtain ⟨s, hs, rfl⟩ := Option.map_eq_some_iff.mp hy
      have e : cutD (ss.map dS) none (some ((0 + i : Nat) : Int)) = (ss.take (0 + i)).map dS := by rw [cut_take, List.map_take]
      have e2 : ((0 + i : Nat) : Int).toNat = 0 + i := by omega
      simp only [pE, fE, e2] at h1 h2
      have key : ∀ b : Bool, b = decide (s ∈ ss.take (0 + i)) → (if b = true then K1 (dI ((0 + i : Nat) : Int)) true else K2) := fun b hb => by
        cases b with
        | true => exact h1 hb.symm
        | false => exact h2 hb.symm
      rcases hd with rfl | rfl
      · walk_at "dl"
        rw [e]
        exact ⟨.inl ⟨rfl, flat_strs _⟩, key _ (any_strs _ _)⟩
      · walk_at "dl"
        rw [e]
        exact ⟨⟨rfl, flat_strs _⟩, key _ (any_strs _ _)⟩
    · obtain rfl := ha rfl
      exact fin _ d (en_firstE _ _ ss 0) (fE_lf fun _ => rfl)
  cases d with
  | list xs => cases hd; exact ⟨rfl, main _ (.inl rfl)⟩
  | tuple xs => cases hd; exact ⟨.inl rfl, rfl, main _ (.inr rfl)⟩
  | _ => cases hd
theorem len_first_twice : ∀ ds R, g_first_twice ds R → ds.length = p_first_twice.length := by rintro _ R ⟨_, _, rfl, _⟩; rfl
end Lw

set_option Elab.async false
set_option linter.all false
set_option maxRecDepth 100000
set_option maxHeartbeats 4000000
namespace Lw
open PySem PySem.Spec PyProof.Rows L2 DL
local macro_rules | `(tactic| walk_at "dl") => `(tactic| simp only [tdSeq, tdSet, tdAsg, tdPar, tdPar3, tdLc, tdItVar, tdIt, tdEnum, tdRg1, tdRg2, tdFor, tdRet, tdRetVar, tdRetN, tdNext, tdIf, tdIfS, tdAnd, tdOr, tdNot, tdAndV, tdOrV, tdNotV, tdB, tdBin, tdChain, tdVar, tdC, tdLst, tdNil, tdCons, tdStar, tdTup, tdNeg, tdSl, tdO0, tdO1, tdRev, tdCall, tdCallS, tdCB, tdIsi, tdAppend, tdExtendA, tdAsgPop, tdPop, tdAppNotPop, tdParPop, tdSetIx, tdAug, eqD, inD, ixD, isN, isNone, addD, subD, mulD, modD, fdivD, ltD, leD, gtD, geD, lenD, tupD, listD, DL.intD, reprD, absD, c1, startD, startS, putD, List.map, List.replicate, List.length, wipeD, List.set, List.getElem?_cons_zero, List.getElem?_cons_succ, List.cons_append, List.nil_append, List.append_nil, Nat.sub_self, Nat.reduceSub, Nat.reduceAdd, List.getElem?_nil, Bool.and_true, Bool.true_and, Bool.false_and, Bool.and_false, Bool.or_true, Bool.true_or, Bool.or_false, Bool.false_or, if_true, Bool.false_eq_true, if_false, true_and, and_true, Bool.true_xor, Bool.false_xor, at0, at1, at2, at3, at4, Option.some.injEq, exists_eq_left', Bool.not_true, true_or, or_true, Bool.not_false, id_eq, imp_self, implies_true, lfAll, lf])
local macro_rules | `(tactic| walk_at "kw") => `(tactic| simp only [kw_any_flag, kw_any_not, kw_any_and, kw_any_or, kw_any_do, kw_any_go, kw_any_set, kw_any_clear, kw_flag_any, kw_flag_not, kw_flag_and, kw_flag_or, kw_flag_do, kw_flag_go, kw_flag_set, kw_flag_clear, kw_not_any, kw_not_flag, kw_not_and, kw_not_or, kw_not_do, kw_not_go, kw_not_set, kw_not_clear, kw_and_any, kw_and_flag, kw_and_not, kw_and_or, kw_and_do, kw_and_go, kw_and_set, kw_and_clear, kw_or_any, kw_or_flag, kw_or_not, kw_or_and, kw_or_do, kw_or_go, kw_or_set, kw_or_clear, kw_do_any, kw_do_flag, kw_do_not, kw_do_and, kw_do_or, kw_do_go, kw_do_set, kw_do_clear, kw_go_any, kw_go_flag, kw_go_not, kw_go_and, kw_go_or, kw_go_do, kw_go_set, kw_go_clear, kw_set_any, kw_set_flag, kw_set_not, kw_set_and, kw_set_or, kw_set_do, kw_set_go, kw_set_clear, kw_clear_any, kw_clear_flag, kw_clear_not, kw_clear_and, kw_clear_or, kw_clear_do, kw_clear_go, kw_clear_set, eq_self, decide_false, decide_true, Bool.false_eq_true, if_false, if_true, Bool.not_true, Bool.not_false, List.any_cons, List.any_nil, Bool.or_false, Bool.false_or, Bool.or_true, Bool.true_or, Bool.false_xor, Bool.true_xor, eqvS])
local macro_rules | `(tactic| walk_at "dv") => `(tactic| simp only [tdSeq, tdSet, tdAsg, tdPar, tdPar3, tdLc, tdItVar, tdIt, tdEnum, tdRg1, tdRg2, tdFor, tdRet, tdRetVar, tdRetN, tdNext, tdIf, tdIfS, tdAnd, tdOr, tdNot, tdAndV, tdOrV, tdNotV, tdB, tdBin, tdChain, tdVar, tdC, tdLst, tdNil, tdCons, tdStar, tdTup, tdNeg, tdSl, tdO0, tdO1, tdRev, tdCall, tdCallS, tdCB, tdIsi, tdAppend, tdExtendA, tdAsgPop, tdPop, tdAppNotPop, tdParPop, tdSetIx, tdAug, eqD, inD, ixD, isN, isNone, addD, subD, mulD, modD, fdivD, ltD, leD, gtD, geD, lenD, tupD, listD, DL.intD, reprD, absD, c1, startD, startS, List.map, List.replicate, List.length, wipeD, List.set, List.getElem?_cons_zero, List.getElem?_cons_succ, List.cons_append, List.nil_append, List.append_nil, Nat.sub_self, Nat.reduceSub, Nat.reduceAdd, List.getElem?_nil, Bool.and_true, Bool.true_and, Bool.false_and, Bool.and_false, Bool.or_true, Bool.true_or, Bool.or_false, Bool.false_or, if_true, Bool.false_eq_true, if_false, true_and, and_true, Bool.true_xor, Bool.false_xor, at0, at1, at2, at3, at4, Option.some.injEq, exists_eq_left', Bool.not_true, true_or, or_true, Bool.not_false, id_eq, imp_self, implies_true, lfAll, lf])
theorem size_pos : ∀ c : Cd, 0 < c.size
  | .any | .flag _ => Nat.one_pos
  | .not a => Nat.succ_pos _
  | .and a b | .or a b => Nat.succ_pos _
theorem parts_len : ∀ (c : Cd) (pl : List D), (parts c pl).length = c.size
  | .any, _ => rfl
  | .flag _, _ => rfl
  | .not a, pl => by simp [parts, Cd.size, parts_len a]
  | .and a b, pl => by simp [parts, Cd.size, parts_len a, parts_len b]
  | .or a b, pl => by simp [parts, Cd.size, parts_len a, parts_len b]
def kids : Cd → List D → List (List D × Cd)
  | .any, _ | .flag _, _ => []
  | .not a, pl => [(pl ++ [dI 1], a)]
  | .and a b, pl | .or a b, pl => [(pl ++ [dI 1], a), (pl ++ [dI 2], b)]
def pp (x : List D × Cd) : List (List D × Cd) := parts x.2 x.1
theorem parts_kids (c : Cd) (pl : List D) : parts c pl = (pl, c) :: (kids c pl).flatMap pp := by
  cases c <;> simp [parts, kids, pp]
theorem kids_size (c : Cd) (pl : List D) : ((kids c pl).map fun x => x.2.size).sum + 1 = c.size := by
  cases c <;> simp [kids, Cd.size]
theorem kids_high {c : Cd} {pl : List D} {x : List D × Cd} (h : x ∈ kids c pl) : x.1.length = pl.length + 1 ∧ x.2.high + 1 ≤ c.high ∧ (lfAll pl = true → lfAll x.1 = true) := by
  cases c with
  | any => cases h
  | flag _ => cases h
  | not a =>
    have : x = (pl ++ [dI 1], a) := by simpa [kids] using h
    subst this
    simp [Cd.high, lf_append, lfAll, lf]
  | and a b =>
    have : x = (pl ++ [dI 1], a) ∨ x = (pl ++ [dI 2], b) := by simpa [kids] using h
    rcases this with rfl | rfl <;> simp [Cd.high, lf_append, lfAll, lf] <;> omega
  | or a b =>
    have : x = (pl ++ [dI 1], a) ∨ x = (pl ++ [dI 2], b) := by simpa [kids] using h
    rcases this with rfl | rfl <;> simp [Cd.high, lf_append, lfAll, lf] <;> omega
theorem sum_ge : ∀ l : List (List D × Cd), l.length ≤ (l.map fun x => x.2.size).sum
  | [] => Nat.le_refl _
  | x :: l => by
    have := sum_ge l
    have := size_pos x.2
    simp; omega
theorem flat_len : ∀ l : List (List D × Cd), (l.flatMap pp).length = (l.map fun x => x.2.size).sum
  | [] => rfl
  | x :: l => by
    rw [List.flatMap_cons, List.length_append, flat_len l]
    simp [pp, parts_len]
theorem sum_rev (l : List (List D × Cd)) : (l.reverse.map fun x => x.2.size).sum = (l.map fun x => x.2.size).sum := by
  rw [List.map_reverse, List.sum_reverse]
theorem tst_ne {i : Nat} {δ : List SD} {p : Addr} {xs : List D} {K : Bool → Prop} (h : δ[i]? = some (.own p xs)) (hk : K (!xs.isEmpty)) : tdB (tdBin (eqD true) (tdVar i) (tdLst tdNil)) δ K := by
  unfold tdB tdBin tdVar
  rw [h]
  refine ⟨le_line (by simp), min_nil _, ?_⟩
  rw [eqv_nil, Bool.true_xor]
  exact hk
def tbKids : TEd := tdLc (tdRg2 (tdC (.int 1)) (tdCB (tdCons (tdVar 5) tdNil) (c1 lenD))) (putD 7) (fun _ R => R true) (tdTup (tdCons (tdTup (tdStar (tdVar 4) (tdCons (tdVar 7) tdNil))) (tdCons (tdBin ixD (tdVar 5) (tdVar 7)) tdNil))) (([("k", 7)] : List (Str × Nat)).map (·.2))
def tbCond : TSd := tdSeq (tdAsgPop (gdTup 2 (gdCons (putD 4) (gdCons (putD 5) gdNil))) 3)
    (tdSeq (tdAppend 2 (tdTup (tdCons (tdVar 4) (tdCons (tdVar 5) tdNil))))
    (tdIfS (tdB (tdBin (inD false) (tdBin ixD (tdVar 5) (tdC (.int 0))) (tdTup (tdCons (tdC (.str "not")) (tdCons (tdC (.str "and")) (tdCons (tdC (.str "or")) tdNil)))))) (tdSeq (tdSet 6 tbKids)
    (tdExtendA 3 (tdRev (tdVar 6)))) tdNext))
theorem cond_body {E : DEnds} {d0 d1 : D} {p1 p2 : Addr} {found l : List D} {s4 s5 s6 : SD} {q : List D} {x : Cd} (hq : lfAll q = true) (hql : q.length ≤ 1000) (hfl : found.length ≤ 1000) (hll : l.length ≤ 1000)
    (h : ∀ s4 s5 s6, E.nx [.d d0, .d d1, .own p1 (found ++ [encP (q, x)]), .own p2 (l ++ ((kids x q).map encP).reverse), s4, s5, s6, .un]) :
    tbCond E [.d d0, .d d1, .own p1 found, .own p2 (l ++ [encP (q, x)]), s4, s5, s6, .un] := by
  unfold tbCond
  walk_at "dv"
  refine ⟨encP (q, x), by simp, ?_⟩
  refine gd2 (show lf (dT q) = true from hq) (lf_enc x) ?_
  rw [List.dropLast_concat]
  walk_at "dv"
  refine ⟨le_line (by simp), lt_line (by omega), ?_⟩
  have fin : ∀ (ys : List D) (a : Bool), ys = (kids x q).map encP → putD 6 (.list ys) a true [.d d0, .d d1, .own p1 (found ++ [encP (q, x)]), .own p2 l, .d (dT q), .d x.enc, s6, .un] (tdExtendA 3 (tdRev (tdVar 6)) E) := fun ys a e => by
    have hl : lfAll ys = true := by
      rw [e, lf_all]
      intro z hz
      obtain ⟨y, hy, rfl⟩ := List.mem_map.mp hz
      exact lf_encP ((kids_high hy).2.2 hq)
    have hn : ys.length ≤ 2 := by rw [e]; cases x <;> simp [kids]
    refine putD_own hl fun p => ?_
    walk_at "dl"
    refine ⟨le_line (by simp; omega), .inr (by rw [lf_all] at hl ⊢; intro z hz; exact hl z (List.mem_reverse.mp hz)), ?_⟩
    rw [e]
    exact h _ _ _
  cases x with
  | any =>
    simp only [Cd.enc]
    walk_at "dv"
    walk_at "kw"
    exact ⟨le_line (by simp), ⟨rfl, rfl⟩, by simpa [kids, encP, Cd.enc] using h (.d (dT q)) (.d (dT [dS "any"])) s6⟩
  | flag s =>
    simp only [Cd.enc]
    walk_at "dv"
    walk_at "kw"
    exact ⟨le_line (by simp), ⟨rfl, rfl⟩, by simpa [kids, encP, Cd.enc] using h (.d (dT q)) (.d (dT [dS "flag", dS s])) s6⟩
  | not a =>
    simp only [Cd.enc]
    walk_at "dv"
    walk_at "kw"
    refine ⟨le_line (by simp), ⟨rfl, rfl⟩, ?_⟩
    unfold tbKids
    walk_at "dv"
    refine ⟨by decide, ?_⟩
    show lcGo _ _ _ _ [.int 1] _ _ _
    refine putD_lf rfl ⟨rfl, ?_⟩
    walk_at "dv"
    exact ⟨le_line (by simp; omega), le_line (by simp), lt_line (by simp), fin _ _ rfl⟩
  | and a b =>
    simp only [Cd.enc]
    walk_at "dv"
    walk_at "kw"
    refine ⟨le_line (by simp), ⟨rfl, rfl⟩, ?_⟩
    unfold tbKids
    walk_at "dv"
    refine ⟨by decide, ?_⟩
    show lcGo _ _ _ _ [.int 1, .int 2] _ _ _
    refine putD_lf rfl ⟨rfl, ?_⟩
    walk_at "dv"
    refine ⟨le_line (by simp; omega), le_line (by simp), lt_line (by simp), ?_⟩
    refine putD_lf rfl ⟨rfl, ?_⟩
    walk_at "dv"
    exact ⟨le_line (by simp; omega), le_line (by simp), lt_line (by simp), fin _ _ rfl⟩
  | or a b =>
    simp only [Cd.enc]
    walk_at "dv"
    walk_at "kw"
    refine ⟨le_line (by simp), ⟨rfl, rfl⟩, ?_⟩
    unfold tbKids
    walk_at "dv"
    refine ⟨by decide, ?_⟩
    show lcGo _ _ _ _ [.int 1, .int 2] _ _ _
    refine putD_lf rfl ⟨rfl, ?_⟩
    walk_at "dv"
    refine ⟨le_line (by simp; omega), le_line (by simp), lt_line (by simp), ?_⟩
    refine putD_lf rfl ⟨rfl, ?_⟩
    walk_at "dv"
    exact ⟨le_line (by simp; omega), le_line (by simp), lt_line (by simp), fin _ _ rfl⟩
theorem sem_conditions_in : ∀ ds R, g_conditions_in ds R → t_conditions_in { nx := fun _ => R .none false, rt := R } (startD N_conditions_in ds) := by
  rintro _ R ⟨c, pl, rfl, hp, hz, ⟨hc1, hc2, hc3⟩, r⟩
  unfold t_conditions_in
  walk_at "dv"
  refine ⟨le_line (by simp), le_line (by simp), le_line (by simp), ?_⟩
  refine putD_own rfl fun p1 => ?_
  refine putD_own (by simp [lfAll, lf, lf_enc, hp]) fun p2 => ?_
  walk_at "dv"
  refine ⟨fun m δ => ∃ (found line : List (List D × Cd)) (s4 s5 s6 : SD), δ = [.d c.enc, .d (dT pl), .own p1 (found.map encP), .own p2 (line.map encP), s4, s5, s6, .un] ∧ found ++ line.reverse.flatMap pp = parts c pl ∧ m = (line.map fun x => x.2.size).sum ∧
    ∀ x ∈ line, lfAll x.1 = true ∧ x.1.length + x.2.high ≤ pl.length + c.high, ⟨_, [], [(pl, c)], .un, .un, .un, rfl, by simp [pp], rfl, fun x hx => by
      have : x = (pl, c) := by simpa using hx
      subst this
      exact ⟨hp, Nat.le_refl _⟩⟩, ?_⟩
  rintro m δ ⟨found, line, s4, s5, s6, rfl, hf, rfl, hl⟩
  have htot : found.length + (line.map fun x => x.2.size).sum = c.size := by
    have := congrArg List.length hf
    rw [List.length_append, flat_len, sum_rev, parts_len] at this
    exact this
  have hll := sum_ge line
  refine tst_ne (i := 3) rfl ?_
  rcases List.eq_nil_or_concat line with rfl | ⟨l, ⟨q, x⟩, rfl⟩
  · have : found = parts c pl := by simpa using hf
    rw [this]
    exact r
  · have hx := hl (q, x) (by simp)
    have hlx : lfAll q = true := hx.1
    have hlen : q.length + x.high ≤ pl.length + c.high := hx.2
    have e1 : ((l.concat (q, x)).map encP) = l.map encP ++ [encP (q, x)] := by simp
    have e2 : (!(l.map encP ++ [encP (q, x)]).isEmpty) = true := by simp
    rw [e1, e2, if_pos rfl]
    rw [List.length_concat] at hll
    refine cond_body (found := found.map encP) hlx (by omega) (by simp; omega) (by simp; omega) fun s4 s5 s6 => ?_
    refine ⟨_, ?_, found ++ [(q, x)], l ++ (kids x q).reverse, s4, s5, s6, by simp, ?_, rfl, ?_⟩
    · have := kids_size x q
      simp [List.sum_append, List.map_reverse, List.sum_reverse]
      omega
    · rw [← hf]
      have e3 : pp (q, x) = (q, x) :: (kids x q).flatMap pp := parts_kids x q
      simp [List.reverse_append, e3]
    · intro y hy
      rcases List.mem_append.mp hy with hy | hy
      · exact hl y (by simp [hy])
      · obtain ⟨k1, k2, k3⟩ := kids_high (List.mem_reverse.mp hy)
        exact ⟨k3 hlx, by omega⟩
theorem len_conditions_in : ∀ ds R, g_conditions_in ds R → ds.length = p_conditions_in.length := by rintro _ R ⟨_, _, rfl, _⟩; rfl
end Lw

set_option Elab.async false
set_option linter.all false
set_option maxRecDepth 100000
set_option maxHeartbeats 4000000
namespace Lw
open PySem PySem.Spec PyProof.Rows L2 DL
local macro_rules | `(tactic| walk_at "dl") => `(tactic| simp only [tdSeq, tdSet, tdAsg, tdPar, tdPar3, tdLc, tdItVar, tdIt, tdEnum, tdRg1, tdRg2, tdFor, tdRet, tdRetVar, tdRetN, tdNext, tdIf, tdIfS, tdAnd, tdOr, tdNot, tdAndV, tdOrV, tdNotV, tdB, tdBin, tdChain, tdVar, tdC, tdLst, tdNil, tdCons, tdStar, tdTup, tdNeg, tdSl, tdO0, tdO1, tdRev, tdCall, tdCallS, tdCB, tdIsi, tdAppend, tdExtendA, tdAsgPop, tdPop, tdAppNotPop, tdParPop, tdSetIx, tdAug, eqD, inD, ixD, isN, isNone, addD, subD, mulD, modD, fdivD, ltD, leD, gtD, geD, lenD, tupD, listD, DL.intD, reprD, absD, c1, startD, startS, putD, List.map, List.replicate, List.length, wipeD, List.set, List.getElem?_cons_zero, List.getElem?_cons_succ, List.cons_append, List.nil_append, List.append_nil, Nat.sub_self, Nat.reduceSub, Nat.reduceAdd, List.getElem?_nil, Bool.and_true, Bool.true_and, Bool.false_and, Bool.and_false, Bool.or_true, Bool.true_or, Bool.or_false, Bool.false_or, if_true, Bool.false_eq_true, if_false, true_and, and_true, Bool.true_xor, Bool.false_xor, at0, at1, at2, at3, at4, Option.some.injEq, exists_eq_left', Bool.not_true, true_or, or_true, Bool.not_false, id_eq, imp_self, implies_true, lfAll, lf])
local macro_rules | `(tactic| walk_at "kw") => `(tactic| simp only [kw_any_flag, kw_any_not, kw_any_and, kw_any_or, kw_any_do, kw_any_go, kw_any_set, kw_any_clear, kw_flag_any, kw_flag_not, kw_flag_and, kw_flag_or, kw_flag_do, kw_flag_go, kw_flag_set, kw_flag_clear, kw_not_any, kw_not_flag, kw_not_and, kw_not_or, kw_not_do, kw_not_go, kw_not_set, kw_not_clear, kw_and_any, kw_and_flag, kw_and_not, kw_and_or, kw_and_do, kw_and_go, kw_and_set, kw_and_clear, kw_or_any, kw_or_flag, kw_or_not, kw_or_and, kw_or_do, kw_or_go, kw_or_set, kw_or_clear, kw_do_any, kw_do_flag, kw_do_not, kw_do_and, kw_do_or, kw_do_go, kw_do_set, kw_do_clear, kw_go_any, kw_go_flag, kw_go_not, kw_go_and, kw_go_or, kw_go_do, kw_go_set, kw_go_clear, kw_set_any, kw_set_flag, kw_set_not, kw_set_and, kw_set_or, kw_set_do, kw_set_go, kw_set_clear, kw_clear_any, kw_clear_flag, kw_clear_not, kw_clear_and, kw_clear_or, kw_clear_do, kw_clear_go, kw_clear_set, eq_self, decide_false, decide_true, Bool.false_eq_true, if_false, if_true, Bool.not_true, Bool.not_false, List.any_cons, List.any_nil, Bool.or_false, Bool.false_or, Bool.or_true, Bool.true_or, Bool.false_xor, Bool.true_xor, eqvS])
local macro_rules | `(tactic| walk_at "dv") => `(tactic| simp only [tdSeq, tdSet, tdAsg, tdPar, tdPar3, tdLc, tdItVar, tdIt, tdEnum, tdRg1, tdRg2, tdFor, tdRet, tdRetVar, tdRetN, tdNext, tdIf, tdIfS, tdAnd, tdOr, tdNot, tdAndV, tdOrV, tdNotV, tdB, tdBin, tdChain, tdVar, tdC, tdLst, tdNil, tdCons, tdStar, tdTup, tdNeg, tdSl, tdO0, tdO1, tdRev, tdCall, tdCallS, tdCB, tdIsi, tdAppend, tdExtendA, tdAsgPop, tdPop, tdAppNotPop, tdParPop, tdSetIx, tdAug, eqD, inD, ixD, isN, isNone, addD, subD, mulD, modD, fdivD, ltD, leD, gtD, geD, lenD, tupD, listD, DL.intD, reprD, absD, c1, startD, startS, List.map, List.replicate, List.length, wipeD, List.set, List.getElem?_cons_zero, List.getElem?_cons_succ, List.cons_append, List.nil_append, List.append_nil, Nat.sub_self, Nat.reduceSub, Nat.reduceAdd, List.getElem?_nil, Bool.and_true, Bool.true_and, Bool.false_and, Bool.and_false, Bool.or_true, Bool.true_or, Bool.or_false, Bool.false_or, if_true, Bool.false_eq_true, if_false, true_and, and_true, Bool.true_xor, Bool.false_xor, at0, at1, at2, at3, at4, Option.some.injEq, exists_eq_left', Bool.not_true, true_or, or_true, Bool.not_false, id_eq, imp_self, implies_true, lfAll, lf])
def isFl : Cd → Bool
  | .flag _ => true
  | _ => false
def flOf : Cd → Str
  | .flag s => s
  | _ => ""
theorem isFl_not (a : Cd) : isFl (.not a) = false := rfl
theorem isFl_and (a b : Cd) : isFl (.and a b) = false := rfl
theorem isFl_or (a b : Cd) : isFl (.or a b) = false := rfl
theorem parts_flags : ∀ (c : Cd) (pl : List D), ((parts c pl).filter fun x => isFl x.2).map (fun x => flOf x.2) = c.flags
  | .any, _ => rfl
  | .flag _, _ => rfl
  | .not a, pl => by simp [parts, Cd.flags, isFl_not, parts_flags a]
  | .and a b, pl => by simp [parts, Cd.flags, isFl_and, parts_flags a, parts_flags b]
  | .or a b, pl => by simp [parts, Cd.flags, isFl_or, parts_flags a, parts_flags b]
theorem parts_mem : ∀ {c : Cd} {pl : List D} {x : List D × Cd}, x ∈ parts c pl → (lfAll pl = true → lfAll x.1 = true) ∧ x.1.length + 1 ≤ pl.length + c.high
  | .any, pl, x, h => by
    have : x = (pl, .any) := by simpa [parts] using h
    subst this; simp [Cd.high]
  | .flag s, pl, x, h => by
    have : x = (pl, .flag s) := by simpa [parts] using h
    subst this; simp [Cd.high]
  | .not a, pl, x, h => by
    have : x = (pl, .not a) ∨ x ∈ parts a (pl ++ [dI 1]) := by simpa [parts] using h
    rcases this with rfl | h
    · simp [Cd.high]
    · obtain ⟨h1, h2⟩ := parts_mem h
      simp [lf_append, lfAll, lf] at h1 h2
      simp only [Cd.high]
      exact ⟨h1, by omega⟩
  | .and a b, pl, x, h => by
    have : x = (pl, .and a b) ∨ x ∈ parts a (pl ++ [dI 1]) ∨ x ∈ parts b (pl ++ [dI 2]) := by simpa [parts] using h
    rcases this with rfl | h | h
    · simp [Cd.high]
    · obtain ⟨h1, h2⟩ := parts_mem h
      simp [lf_append, lfAll, lf] at h1 h2
      simp only [Cd.high]
      exact ⟨h1, by omega⟩
    · obtain ⟨h1, h2⟩ := parts_mem h
      simp [lf_append, lfAll, lf] at h1 h2
      simp only [Cd.high]
      exact ⟨h1, by omega⟩
  | .or a b, pl, x, h => by
    have : x = (pl, .or a b) ∨ x ∈ parts a (pl ++ [dI 1]) ∨ x ∈ parts b (pl ++ [dI 2]) := by simpa [parts] using h
    rcases this with rfl | h | h
    · simp [Cd.high]
    · obtain ⟨h1, h2⟩ := parts_mem h
      simp [lf_append, lfAll, lf] at h1 h2
      simp only [Cd.high]
      exact ⟨h1, by omega⟩
    · obtain ⟨h1, h2⟩ := parts_mem h
      simp [lf_append, lfAll, lf] at h1 h2
      simp only [Cd.high]
      exact ⟨h1, by omega⟩
theorem flags_size : ∀ c : Cd, c.flags.length ≤ c.size
  | .any => Nat.zero_le _
  | .flag _ => Nat.le_refl _
  | .not a => by have := flags_size a; simp [Cd.flags, Cd.size]; omega
  | .and a b => by have := flags_size a; have := flags_size b; simp [Cd.flags, Cd.size]; omega
  | .or a b => by have := flags_size a; have := flags_size b; simp [Cd.flags, Cd.size]; omega
theorem sem_flags_looked_at : ∀ ds R, g_flags_looked_at ds R → t_flags_looked_at { nx := fun _ => R .none false, rt := R } (startD N_flags_looked_at ds) := by
  rintro _ R ⟨c, rfl, hc, r⟩
  obtain ⟨hc1, hc2, hc3⟩ := id hc
  have hfs := flags_size c
  unfold t_flags_looked_at
  walk_at "dv"
  refine ⟨le_line (by simp), c, [], rfl, rfl, by simp, hc, ?_⟩
  refine lcGo_fmT encP (fun x => isFl x.2) (fun x => dS (flOf x.2)) true (parts c []) [] true _ (fun x hx K1 K2 h1 h2 => ?_) (le_line (by rw [parts_len]; simp; omega)) fun a' ha => ?_
  · obtain ⟨q, x⟩ := x
    have hq : lfAll q = true := (parts_mem hx).1 rfl
    refine gd2 (show lf (dT q) = true from hq) (lf_enc x) ?_
    cases x <;> (simp only [Cd.enc]; walk_at "dv"; walk_at "kw")
    all_goals first | exact ⟨rfl, h2 rfl⟩ | exact ⟨rfl, h1 rfl⟩
  · obtain rfl := ha rfl
    have e : ((parts c []).filter fun x => isFl x.2).map (fun x => dS (flOf x.2)) = c.flags.map dS := by
      rw [← parts_flags c [], List.map_map]; rfl
    rw [List.nil_append, e]
    refine putD_own (lf_strs _) fun p => ?_
    walk_at "dv"
    refine ⟨rfl, ?_⟩
    refine lcGo_mapT dS (fun s => dT [dS s, .bool true]) true c.flags _ (fun s hs K h1 => ?_) (le_line (by omega)) fun a' ha => ?_
    · refine putD_lf rfl ⟨rfl, ?_⟩
      walk_at "dv"
      exact ⟨le_line (by simp), h1⟩
    · refine ⟨c.flags.map fun s => (s, .bool true), by simp, by simp; omega, fun ys hp hs => ?_⟩
      rw [List.map_map] at hp
      have : (Prod.fst ∘ fun s : Str => (s, PyData.bool true)) = id := rfl
      rw [this, List.map_id] at hp
      exact r ys hp hs
theorem len_flags_looked_at : ∀ ds R, g_flags_looked_at ds R → ds.length = p_flags_looked_at.length := by rintro _ R ⟨_, rfl, _⟩; rfl
theorem sem_wrong_condition : ∀ ds R, g_wrong_condition ds R → t_wrong_condition { nx := fun _ => R .none false, rt := R } (startD N_wrong_condition ds) := by
  rintro _ R ⟨fl, c, pl, rfl, hp, hz, hc, r⟩
  obtain ⟨hc1, hc2, hc3⟩ := id hc
  unfold t_wrong_condition
  walk_at "dv"
  refine ⟨c, pl, rfl, hp, by omega, hc, ?_⟩
  refine lcGo_fmT encP (fun x => badF fl x.2) (fun x => dT (x.1 ++ [dI 1])) true (parts c pl) [] true _ (fun x hx K1 K2 h1 h2 => ?_) (le_line (by rw [parts_len]; simp; omega)) fun a' ha => ?_
  · obtain ⟨q, x⟩ := x
    obtain ⟨hq, hql⟩ := parts_mem hx
    have hql : q.length + 1 ≤ pl.length + c.high := hql
    refine gd2 (show lf (dT q) = true from hq hp) (lf_enc x) ?_
    cases x with
    | flag s =>
      simp only [Cd.enc]
      walk_at "dv"
      walk_at "kw"
      refine ⟨rfl, ⟨rfl, flat_strs fl⟩, ?_⟩
      rw [any_strs]
      cases hd : decide (s ∈ fl) with
      | true => exact h2 (by simp [badF, hd])
      | false => exact ⟨le_line (by simp; omega), h1 (by simp [badF, hd])⟩
    | _ =>
      simp only [Cd.enc]
      walk_at "dv"
      walk_at "kw"
      exact ⟨rfl, h2 rfl⟩
  · obtain rfl := ha rfl
    rw [List.nil_append]
    have hlf : lfAll (((parts c pl).filter fun x => badF fl x.2).map fun x => dT (x.1 ++ [dI 1])) = true := by
      rw [lf_all]
      intro z hz
      obtain ⟨x, hx, rfl⟩ := List.mem_map.mp hz
      have := (parts_mem (List.mem_filter.mp hx).1).1 hp
      simp [lf, lf_append, this, lfAll]
    refine putD_own hlf fun p => ?_
    unfold cdF at r
    refine first_else (i := 3) rfl (fun e => ?_) fun y ys e => ?_
    · have : ((parts c pl).filter fun x => badF fl x.2) = [] := by simpa using e
      rw [this] at r
      exact r
    · cases hq : ((parts c pl).filter fun x => badF fl x.2) with
      | nil => rw [hq] at e; cases e
      | cons x xs =>
        rw [hq] at e r
        rw [List.map_cons] at e
        obtain ⟨e1, e2⟩ := List.cons.inj e
        subst e1
        walk_at "dv"
        exact ⟨le_line (by simp), r⟩
theorem len_wrong_condition : ∀ ds R, g_wrong_condition ds R → ds.length = p_wrong_condition.length := by rintro _ R ⟨_, _, _, rfl, _⟩; rfl
theorem sem_used_up : ∀ ds R, g_used_up ds R → t_used_up { nx := fun _ => R .none false, rt := R } (startD N_used_up ds) := by
  rintro _ R ⟨d, rfl, r⟩
  unfold t_used_up
  cases d <;> (simp only [Dd.enc]; walk_at "dv"; walk_at "kw"; exact ⟨le_line (by simp), ⟨rfl, rfl⟩, le_line (by simp), r⟩)
theorem len_used_up : ∀ ds R, g_used_up ds R → ds.length = p_used_up.length := by rintro _ R ⟨_, rfl, _⟩; rfl
theorem lf_encd : ∀ d : Dd, lf d.enc = true
  | .run ts => by simp [Dd.enc, lf, lfAll, lf_strs]
  | .go s | .set s | .clear s => rfl
theorem sem_wrong_deed : ∀ ds R, g_wrong_deed ds R → t_wrong_deed { nx := fun _ => R .none false, rt := R } (startD N_wrong_deed ds) := by
  rintro _ R ⟨acts, fl, md, d, pl, rfl, hp, hz, hd, r⟩
  unfold t_wrong_deed
  simp only [dTold]
  walk_at "dv"
  refine gd3a (fun _ z => by cases z) (fun _ z => by cases z) (fun _ z => by cases z) ?_
  walk_at "dv"
  cases d with
  | run ts =>
    simp only [Dd.enc]
    walk_at "dv"
    walk_at "kw"
    exact ⟨le_line (by simp; omega), acts, ts, pl ++ [dI 1], rfl, hd.2, by simp [lf_append, hp, lfAll, lf], by have := hd.1; omega, by simp; omega, r⟩
  | go s =>
    simp only [Dd.enc]
    walk_at "dv"
    walk_at "kw"
    refine ⟨.inl ⟨rfl, flat_strs md⟩, ?_⟩
    rw [any_strs]
    dsimp only [deedF] at r
    by_cases h : s ∈ md
    · rw [decide_eq_true h, if_pos rfl]; rw [if_pos h] at r; exact r
    · rw [decide_eq_false h, if_neg (by decide)]; rw [if_neg h] at r; exact ⟨le_line (by simp; omega), le_line (by simp), r⟩
  | set s =>
    simp only [Dd.enc]
    walk_at "dv"
    walk_at "kw"
    refine ⟨⟨rfl, flat_strs fl⟩, ?_⟩
    rw [any_strs]
    dsimp only [deedF] at r
    by_cases h : s ∈ fl
    · rw [decide_eq_true h, if_pos rfl]; rw [if_pos h] at r; exact r
    · rw [decide_eq_false h, if_neg (by decide)]; rw [if_neg h] at r; exact ⟨le_line (by simp; omega), le_line (by simp), r⟩
  | clear s =>
    simp only [Dd.enc]
    walk_at "dv"
    walk_at "kw"
    refine ⟨⟨rfl, flat_strs fl⟩, ?_⟩
    rw [any_strs]
    dsimp only [deedF] at r
    by_cases h : s ∈ fl
    · rw [decide_eq_true h, if_pos rfl]; rw [if_pos h] at r; exact r
    · rw [decide_eq_false h, if_neg (by decide)]; rw [if_neg h] at r; exact ⟨le_line (by simp; omega), le_line (by simp), r⟩
theorem len_wrong_deed : ∀ ds R, g_wrong_deed ds R → ds.length = p_wrong_deed.length := by rintro _ R ⟨_, _, _, _, _, rfl, _⟩; rfl
end Lw

set_option Elab.async false
set_option linter.all false
set_option maxRecDepth 100000
set_option maxHeartbeats 4000000
namespace Lw
open PySem PySem.Spec PyProof.Rows L2 DL
local macro_rules | `(tactic| walk_at "dl") => `(tactic| simp only [tdSeq, tdSet, tdAsg, tdPar, tdPar3, tdLc, tdItVar, tdIt, tdEnum, tdRg1, tdRg2, tdFor, tdRet, tdRetVar, tdRetN, tdNext, tdIf, tdIfS, tdAnd, tdOr, tdNot, tdAndV, tdOrV, tdNotV, tdB, tdBin, tdChain, tdVar, tdC, tdLst, tdNil, tdCons, tdStar, tdTup, tdNeg, tdSl, tdO0, tdO1, tdRev, tdCall, tdCallS, tdCB, tdIsi, tdAppend, tdExtendA, tdAsgPop, tdPop, tdAppNotPop, tdParPop, tdSetIx, tdAug, eqD, inD, ixD, isN, addD, subD, mulD, modD, fdivD, ltD, leD, gtD, geD, lenD, tupD, listD, DL.intD, reprD, absD, c1, startD, startS, putD, List.map, List.replicate, List.length, wipeD, List.set, List.getElem?_cons_zero, List.getElem?_cons_succ, List.cons_append, List.nil_append, List.append_nil, Nat.sub_self, Nat.reduceSub, Nat.reduceAdd, List.getElem?_nil, Bool.and_true, Bool.true_and, Bool.false_and, Bool.and_false, Bool.or_true, Bool.true_or, Bool.or_false, Bool.false_or, if_true, Bool.false_eq_true, if_false, true_and, and_true, Bool.true_xor, Bool.false_xor, at0, at1, at2, at3, at4, Option.some.injEq, exists_eq_left', Bool.not_true, true_or, or_true, Bool.not_false, id_eq, imp_self, implies_true, lfAll, lf])
local macro_rules | `(tactic| walk_at "kw") => `(tactic| simp only [kw_any_flag, kw_any_not, kw_any_and, kw_any_or, kw_any_do, kw_any_go, kw_any_set, kw_any_clear, kw_flag_any, kw_flag_not, kw_flag_and, kw_flag_or, kw_flag_do, kw_flag_go, kw_flag_set, kw_flag_clear, kw_not_any, kw_not_flag, kw_not_and, kw_not_or, kw_not_do, kw_not_go, kw_not_set, kw_not_clear, kw_and_any, kw_and_flag, kw_and_not, kw_and_or, kw_and_do, kw_and_go, kw_and_set, kw_and_clear, kw_or_any, kw_or_flag, kw_or_not, kw_or_and, kw_or_do, kw_or_go, kw_or_set, kw_or_clear, kw_do_any, kw_do_flag, kw_do_not, kw_do_and, kw_do_or, kw_do_go, kw_do_set, kw_do_clear, kw_go_any, kw_go_flag, kw_go_not, kw_go_and, kw_go_or, kw_go_do, kw_go_set, kw_go_clear, kw_set_any, kw_set_flag, kw_set_not, kw_set_and, kw_set_or, kw_set_do, kw_set_go, kw_set_clear, kw_clear_any, kw_clear_flag, kw_clear_not, kw_clear_and, kw_clear_or, kw_clear_do, kw_clear_go, kw_clear_set, eq_self, decide_false, decide_true, Bool.false_eq_true, if_false, if_true, Bool.not_true, Bool.not_false, List.any_cons, List.any_nil, Bool.or_false, Bool.false_or, Bool.or_true, Bool.true_or, Bool.false_xor, Bool.true_xor, eqvS])
local macro_rules | `(tactic| walk_at "dv") => `(tactic| simp only [tdSeq, tdSet, tdAsg, tdPar, tdPar3, tdLc, tdItVar, tdIt, tdEnum, tdRg1, tdRg2, tdFor, tdRet, tdRetVar, tdRetN, tdNext, tdIf, tdIfS, tdAnd, tdOr, tdNot, tdAndV, tdOrV, tdNotV, tdB, tdBin, tdChain, tdVar, tdC, tdLst, tdNil, tdCons, tdStar, tdTup, tdNeg, tdSl, tdO0, tdO1, tdRev, tdCall, tdCallS, tdCB, tdIsi, tdAppend, tdExtendA, tdAsgPop, tdPop, tdAppNotPop, tdParPop, tdSetIx, tdAug, eqD, inD, ixD, isN, addD, subD, mulD, modD, fdivD, ltD, leD, gtD, geD, lenD, tupD, listD, DL.intD, reprD, absD, c1, startD, startS, List.map, List.replicate, List.length, wipeD, List.set, List.getElem?_cons_zero, List.getElem?_cons_succ, List.cons_append, List.nil_append, List.append_nil, Nat.sub_self, Nat.reduceSub, Nat.reduceAdd, List.getElem?_nil, Bool.and_true, Bool.true_and, Bool.false_and, Bool.and_false, Bool.or_true, Bool.true_or, Bool.or_false, Bool.false_or, if_true, Bool.false_eq_true, if_false, true_and, and_true, Bool.true_xor, Bool.false_xor, at0, at1, at2, at3, at4, Option.some.injEq, exists_eq_left', Bool.not_true, true_or, or_true, Bool.not_false, id_eq, imp_self, implies_true, lfAll, lf])
theorem nd_optD {o : Option D} (h : ∀ d, o = some d → lf d = true) : lf (optD o) = true := by
  cases o with
  | none => rfl
  | some d => exact h d rfl
theorem lf_actF {acts row : List Str} {pl : List D} (h : lfAll pl = true) : ∀ d, actF acts row pl = some d → lf d = true := fun d e => by
  unfold actF at e
  obtain ⟨k, _, rfl⟩ := Option.map_eq_some_iff.mp e
  exact lf_fault (by simp [lf_append, h, lfAll, lf])
theorem lf_deedF {acts fl md : List Str} {d : Dd} {pl : List D} (h : lfAll pl = true) : ∀ x, deedF acts fl md d pl = some x → lf x = true := fun x e => by
  have hp : lfAll (pl ++ [dI 1]) = true := by simp [lf_append, h, lfAll, lf]
  cases d with
  | run ts => exact lf_actF hp x e
  | go s =>
    dsimp only [deedF] at e
    split at e
    · cases e
    · cases e; exact lf_fault hp
  | set s =>
    dsimp only [deedF] at e
    split at e
    · cases e
    · cases e; exact lf_fault hp
  | clear s =>
    dsimp only [deedF] at e
    split at e
    · cases e
    · cases e; exact lf_fault hp
theorem lf_encU : ∀ u : U, lf u.enc = true
  | .run | .go | .flag _ => rfl
theorem eqv_U (a b : U) : PyData.eqv a.enc b.enc = decide (a = b) := by
  cases a with
  | run => cases b with
    | run => rfl
    | go => decide
    | flag s => rfl
  | go => cases b with
    | run => decide
    | go => rfl
    | flag s => rfl
  | flag s => cases b with
    | run => rfl
    | go => rfl
    | flag t =>
      show ((("flag" : Str) == ("flag" : Str)) && ((s == t) && true)) = _
      rw [Bool.and_true, Bool.beq_eq_decide_eq, Bool.beq_eq_decide_eq, decide_eq_true rfl, Bool.true_and]
      by_cases h : s = t
      · subst h; simp
      · rw [decide_eq_false h, decide_eq_false (fun z => h (U.flag.inj z))]
theorem any_U (us : List U) (u : U) : (us.map U.enc).any (fun z => PyData.eqv z u.enc) = decide (u ∈ us) := by
  induction us with
  | nil => rfl
  | cons x us ih =>
    rw [List.map_cons, List.any_cons, ih, eqv_U]
    by_cases h : u = x
    · subst h; simp
    · rw [decide_eq_false (fun z => h z.symm)]; simp [h]
def tbDeeds : TSd := tdSeq (tdSet 6 (tdCall (tdCons (tdVar 0) (tdCons (tdVar 5) (tdCons (tdTup (tdStar (tdVar 2) (tdCons (tdVar 4) tdNil))) tdNil))) g_wrong_deed))
    (tdSeq (tdIfS (tdB (tdBin (isN true) (tdVar 6) (tdC .none))) (tdRetVar 6) tdNext)
    (tdSeq (tdIfS (tdB (tdBin (inD false) (tdCall (tdCons (tdVar 5) tdNil) g_used_up) (tdVar 3))) (tdRet (tdTup (tdCons (tdTup (tdStar (tdVar 2) (tdCons (tdVar 4) tdNil))) (tdCons (tdC (.str "deeds")) tdNil)))) tdNext)
    (tdAppend 3 (tdCall (tdCons (tdVar 5) tdNil) g_used_up))))
theorem isN_optD (o : Option D) (h : ∀ d, o = some d → lf d = true ∧ d ≠ .none) : isNone (optD o) = o.isNone := by
  cases o with
  | none => rfl
  | some d =>
    have := (h d rfl).2
    cases d <;> first | rfl | exact absurd rfl this
theorem fault_ne {pl : List D} {w : Str} : fault pl w ≠ .none := fun z => by cases z
theorem ne_actF {acts row : List Str} {pl : List D} : ∀ d, actF acts row pl = some d → d ≠ .none := fun d e => by
  unfold actF at e
  obtain ⟨k, _, rfl⟩ := Option.map_eq_some_iff.mp e
  exact fault_ne
theorem ne_deedF {acts fl md : List Str} {d : Dd} {pl : List D} : ∀ x, deedF acts fl md d pl = some x → x ≠ .none := fun x e => by
  cases d with
  | run ts => exact ne_actF x e
  | go s =>
    dsimp only [deedF] at e
    split at e
    · cases e
    · cases e; exact fault_ne
  | set s =>
    dsimp only [deedF] at e
    split at e
    · cases e
    · cases e; exact fault_ne
  | clear s =>
    dsimp only [deedF] at e
    split at e
    · cases e
    · cases e; exact fault_ne
theorem deeds_go {acts fl md : List Str} {pl : List D} {x1 : D} {R : D → Bool → Prop} {p : Addr} (hp : lfAll pl = true) (hz : pl.length ≤ 80) : ∀ (ds : List Dd) (k : Nat) (met : List U) (s4 s5 s6 : SD), (∀ x ∈ ds, x.ok) → met.length + ds.length ≤ 100 →
    R (optD (deedsGo acts fl md pl k met ds)) false → forGo (gdTup 2 (gdCons (putD 4) (gdCons (putD 5) gdNil))) tbDeeds { nx := fun _ => R .none false, rt := R } ((enT k ds).map fun x => .tuple [.int (x.1 : Nat), x.2.enc]) [.d (dTold acts fl md), .d x1, .d (dT pl), .own p (met.map U.enc), s4, s5, s6]
  | [], k, met, s4, s5, s6, _, _, r => r
  | d :: ds, k, met, s4, s5, s6, hd, hl, r => by
    show gdTup 2 (gdCons (putD 4) (gdCons (putD 5) gdNil)) (.tuple [.int (k : Nat), d.enc]) true false _ _
    refine gd2 rfl (lf_encd d) ?_
    rw [List.length_cons] at hl
    unfold tbDeeds
    walk_at "dv"
    refine ⟨le_line (by simp; omega), acts, fl, md, d, pl ++ [dI (k : Nat)], rfl, by simp [lf_append, hp, lfAll, lf], by simp; omega, hd d (by simp), ?_⟩
    have hpk : lfAll (pl ++ [dI (k : Nat)]) = true := by simp [lf_append, hp, lfAll, lf]
    refine putD_lf (nd_optD (lf_deedF hpk)) ?_
    have hN := isN_optD (deedF acts fl md d (pl ++ [dI (k : Nat)])) fun x e => ⟨lf_deedF hpk x e, ne_deedF x e⟩
    unfold deedsGo at r
    generalize hq : deedF acts fl md d (pl ++ [dI (k : Nat)]) = o at r hN ⊢
    cases o with
    | some f =>
      have hN : isNone f = false := hN
      simp only [optD]
      walk_at "dv"
      rw [hN]
      walk_at "dv"
      exact r
    | none =>
      have r : R (optD (if d.u ∈ met then some (fault (pl ++ [dI (k : Nat)]) "deeds") else deedsGo acts fl md pl (k + 1) (met ++ [d.u]) ds)) false := r
      simp only [optD]
      walk_at "dv"
      rw [show isNone PyData.none = true from rfl]
      walk_at "dv"
      refine ⟨d, rfl, .inr (by cases d.u <;> simp [U.enc, PyData.depth, PyData.depthAll]), ?_⟩
      rw [any_U]
      by_cases h : d.u ∈ met
      · rw [decide_eq_true h, if_pos rfl]
        rw [if_pos h] at r
        exact ⟨le_line (by simp; omega), le_line (by simp), r⟩
      · rw [decide_eq_false h, if_neg (by decide)]
        rw [if_neg h] at r
        refine ⟨d, rfl, lt_line (by simp; omega), ?_⟩
        have e : met.map U.enc ++ [d.u.enc] = (met ++ [d.u]).map U.enc := by simp
        rw [e]
        exact deeds_go hp hz ds (k + 1) (met ++ [d.u]) _ _ _ (fun x hx => hd x (List.mem_cons_of_mem _ hx)) (by rw [List.length_append, List.length_singleton]; omega) r
theorem sem_wrong_deeds : ∀ ds R, g_wrong_deeds ds R → t_wrong_deeds { nx := fun _ => R .none false, rt := R } (startD N_wrong_deeds ds) := by
  rintro _ R ⟨acts, fl, md, d, pl, rfl, hp, hz, hd, hn, r⟩
  unfold t_wrong_deeds
  walk_at "dv"
  refine ⟨le_line (by simp), ?_⟩
  refine putD_own rfl fun p => ?_
  walk_at "dv"
  rw [enD_T]
  exact deeds_go hp hz d 0 [] _ _ _ hd (by simp; omega) r
theorem len_wrong_deeds : ∀ ds R, g_wrong_deeds ds R → ds.length = p_wrong_deeds.length := by rintro _ R ⟨_, _, _, _, _, rfl, _⟩; rfl
theorem lf_cdF {fl : List Str} {c : Cd} {pl : List D} (h : lfAll pl = true) : ∀ d, cdF fl c pl = some d → lf d = true ∧ d ≠ .none := fun d e => by
  unfold cdF at e
  obtain ⟨x, hx, rfl⟩ := Option.map_eq_some_iff.mp e
  have := (parts_mem (List.mem_filter.mp (List.mem_of_head? hx)).1).1 h
  exact ⟨lf_fault (by simp [lf_append, this, lfAll, lf]), fault_ne⟩
theorem sem_wrong_rule : ∀ ds R, g_wrong_rule ds R → t_wrong_rule { nx := fun _ => R .none false, rt := R } (startD N_wrong_rule ds) := by
  rintro _ R ⟨names, acts, fl, md, ⟨on, c, ds⟩, pl, rfl, hp, hz, ⟨ho, hc, hn, hds⟩, r⟩
  have hc : c.ok := hc
  have hn : ds.length ≤ 12 := hn
  have hds : ∀ d ∈ ds, d.ok := hds
  unfold t_wrong_rule
  simp only [Rl.enc]
  walk_at "dv"
  refine gd3 rfl (lf_enc c) (by simp [lf, lf_all]; intro d _; exact lf_encd d) ?_
  walk_at "dv"
  refine ⟨⟨rfl, flat_strs names⟩, ?_⟩
  rw [any_strs]
  unfold ruleF at r
  by_cases h : on ∈ names
  · rw [decide_eq_true h]
    rw [if_pos h] at r
    simp only [dTold]
    walk_at "dv"
    have hp1 : lfAll (pl ++ [dI 1]) = true := by simp [lf_append, hp, lfAll, lf]
    refine ⟨le_line (by simp; omega), fl, c, pl ++ [dI 1], rfl, hp1, by simp; omega, hc, ?_⟩
    have r : R (optD (match cdF fl c (pl ++ [dI 1]) with | some f => some f | none => deedsGo acts fl md (pl ++ [dI 2]) 0 [] ds)) false := r
    have hN := isN_optD (cdF fl c (pl ++ [dI 1])) fun x e => lf_cdF hp1 x e
    refine putD_lf (nd_optD fun x e => (lf_cdF hp1 x e).1) ?_
    generalize cdF fl c (pl ++ [dI 1]) = o at r hN ⊢
    cases o with
    | some f =>
      have hN : isNone f = false := hN
      simp only [optD]
      walk_at "dv"
      rw [hN]
      walk_at "dv"
      exact r
    | none =>
      simp only [optD]
      walk_at "dv"
      rw [show isNone PyData.none = true from rfl]
      walk_at "dv"
      exact ⟨le_line (by simp; omega), acts, fl, md, ds, pl ++ [dI 2], rfl, by simp [lf_append, hp, lfAll, lf], by simp; omega, hds, hn, r⟩
  · rw [decide_eq_false h]
    rw [if_neg h] at r
    walk_at "dv"
    exact ⟨le_line (by simp; omega), le_line (by simp), r⟩
theorem len_wrong_rule : ∀ ds R, g_wrong_rule ds R → ds.length = p_wrong_rule.length := by rintro _ R ⟨_, _, _, _, _, _, rfl, _⟩; rfl
end Lw

set_option Elab.async false
set_option linter.all false
set_option maxRecDepth 100000
set_option maxHeartbeats 4000000
namespace Lw
open PySem PySem.Spec PyProof.Rows L2 DL
local macro_rules | `(tactic| walk_at "dl") => `(tactic| simp (config := { maxSteps := 4000000 }) only [tdSeq, tdSet, tdAsg, tdPar, tdPar3, tdLc, tdItVar, tdIt, tdEnum, tdRg1, tdRg2, tdFor, tdRet, tdRetVar, tdRetN, tdNext, tdIf, tdIfS, tdAnd, tdOr, tdNot, tdAndV, tdOrV, tdNotV, tdB, tdBin, tdChain, tdVar, tdC, tdLst, tdNil, tdCons, tdStar, tdTup, tdNeg, tdSl, tdO0, tdO1, tdRev, tdCall, tdCallS, tdCB, tdIsi, tdAppend, tdExtendA, tdAsgPop, tdPop, tdAppNotPop, tdParPop, tdSetIx, tdAug, eqD, inD, ixD, isN, addD, subD, mulD, modD, fdivD, ltD, leD, gtD, geD, lenD, tupD, listD, DL.intD, reprD, absD, c1, startD, startS, putD, List.map, List.replicate, List.length, wipeD, List.set, List.getElem?_cons_zero, List.getElem?_cons_succ, List.cons_append, List.nil_append, List.append_nil, Nat.sub_self, Nat.reduceSub, Nat.reduceAdd, List.getElem?_nil, Bool.and_true, Bool.true_and, Bool.false_and, Bool.and_false, Bool.or_true, Bool.true_or, Bool.or_false, Bool.false_or, if_true, Bool.false_eq_true, if_false, true_and, and_true, Bool.true_xor, Bool.false_xor, at0, at1, at2, at3, at4, Option.some.injEq, exists_eq_left', Bool.not_true, true_or, or_true, Bool.not_false, id_eq, imp_self, implies_true, lfAll, lf])
local macro_rules | `(tactic| walk_at "kw") => `(tactic| simp (config := { maxSteps := 4000000 }) only [kw_any_flag, kw_any_not, kw_any_and, kw_any_or, kw_any_do, kw_any_go, kw_any_set, kw_any_clear, kw_flag_any, kw_flag_not, kw_flag_and, kw_flag_or, kw_flag_do, kw_flag_go, kw_flag_set, kw_flag_clear, kw_not_any, kw_not_flag, kw_not_and, kw_not_or, kw_not_do, kw_not_go, kw_not_set, kw_not_clear, kw_and_any, kw_and_flag, kw_and_not, kw_and_or, kw_and_do, kw_and_go, kw_and_set, kw_and_clear, kw_or_any, kw_or_flag, kw_or_not, kw_or_and, kw_or_do, kw_or_go, kw_or_set, kw_or_clear, kw_do_any, kw_do_flag, kw_do_not, kw_do_and, kw_do_or, kw_do_go, kw_do_set, kw_do_clear, kw_go_any, kw_go_flag, kw_go_not, kw_go_and, kw_go_or, kw_go_do, kw_go_set, kw_go_clear, kw_set_any, kw_set_flag, kw_set_not, kw_set_and, kw_set_or, kw_set_do, kw_set_go, kw_set_clear, kw_clear_any, kw_clear_flag, kw_clear_not, kw_clear_and, kw_clear_or, kw_clear_do, kw_clear_go, kw_clear_set, eq_self, decide_false, decide_true, Bool.false_eq_true, if_false, if_true, Bool.not_true, Bool.not_false, List.any_cons, List.any_nil, Bool.or_false, Bool.false_or, Bool.or_true, Bool.true_or, Bool.false_xor, Bool.true_xor, eqvS])
local macro_rules | `(tactic| walk_at "dv") => `(tactic| simp (config := { maxSteps := 4000000 }) only [tdSeq, tdSet, tdAsg, tdPar, tdPar3, tdLc, tdItVar, tdIt, tdEnum, tdRg1, tdRg2, tdFor, tdRet, tdRetVar, tdRetN, tdNext, tdIf, tdIfS, tdAnd, tdOr, tdNot, tdAndV, tdOrV, tdNotV, tdB, tdBin, tdChain, tdVar, tdC, tdLst, tdNil, tdCons, tdStar, tdTup, tdNeg, tdSl, tdO0, tdO1, tdRev, tdCall, tdCallS, tdCB, tdIsi, tdAppend, tdExtendA, tdAsgPop, tdPop, tdAppNotPop, tdParPop, tdSetIx, tdAug, eqD, inD, ixD, isN, addD, subD, mulD, modD, fdivD, ltD, leD, gtD, geD, lenD, tupD, listD, DL.intD, reprD, absD, c1, startD, startS, List.map, List.replicate, List.length, wipeD, List.set, List.getElem?_cons_zero, List.getElem?_cons_succ, List.cons_append, List.nil_append, List.append_nil, Nat.sub_self, Nat.reduceSub, Nat.reduceAdd, List.getElem?_nil, Bool.and_true, Bool.true_and, Bool.false_and, Bool.and_false, Bool.or_true, Bool.true_or, Bool.or_false, Bool.false_or, if_true, Bool.false_eq_true, if_false, true_and, and_true, Bool.true_xor, Bool.false_xor, at0, at1, at2, at3, at4, Option.some.injEq, exists_eq_left', Bool.not_true, true_or, or_true, Bool.not_false, id_eq, imp_self, implies_true, lfAll, lf])
theorem lf_deedsGo {acts fl md : List Str} {pl : List D} (h : lfAll pl = true) : ∀ (ds : List Dd) (k : Nat) (met : List U) (d : D), deedsGo acts fl md pl k met ds = some d → lf d = true ∧ d ≠ .none
  | [], _, _, d, e => by cases e
  | x :: ds, k, met, d, e => by
    have hpk : lfAll (pl ++ [dI (k : Nat)]) = true := by simp [lf_append, h, lfAll, lf]
    unfold deedsGo at e
    split at e
    · rename_i f hq
      cases e
      exact ⟨lf_deedF hpk _ hq, ne_deedF _ hq⟩
    · split at e
      · cases e; exact ⟨lf_fault hpk, fault_ne⟩
      · exact lf_deedsGo h ds (k + 1) _ d e
theorem lf_ruleF {names acts fl md : List Str} {r : Rl} {pl : List D} (h : lfAll pl = true) : ∀ d, ruleF names acts fl md r pl = some d → lf d = true ∧ d ≠ .none := fun d e => by
  have h1 : ∀ i : Int, lfAll (pl ++ [dI i]) = true := fun i => by simp [lf_append, h, lfAll, lf]
  unfold ruleF at e
  split at e
  · split at e
    · rename_i f hq
      cases e
      exact lf_cdF (h1 1) _ hq
    · exact lf_deedsGo (h1 2) _ _ _ d e
  · cases e; exact ⟨lf_fault (h1 0), fault_ne⟩
theorem rules_en {names acts fl md : List Str} {i : Nat} : ∀ (rs : List Rl) (k : Nat), (enT k rs).map (fun x => optD (ruleF names acts fl md x.2 [dI 4, dI (i : Nat), dI 2, dI (x.1 : Nat)])) = rulesGo names acts fl md i k rs
  | [], _ => rfl
  | r :: rs, k => by
    unfold enT rulesGo
    rw [List.map_cons, rules_en rs (k + 1)]
theorem lf_rulesGo {names acts fl md : List Str} {i : Nat} : ∀ (rs : List Rl) (k : Nat), lfAll (rulesGo names acts fl md i k rs) = true
  | [], _ => rfl
  | r :: rs, k => by
    unfold rulesGo
    rw [show ∀ (x : D) xs, lfAll (x :: xs) = (lf x && lfAll xs) from fun _ _ => rfl, lf_rulesGo rs (k + 1), nd_optD fun d e => (lf_ruleF (by simp [lfAll, lf]) d e).1]
    rfl
theorem rulesGo_len {names acts fl md : List Str} {i : Nat} : ∀ (rs : List Rl) (k : Nat), (rulesGo names acts fl md i k rs).length = rs.length
  | [], _ => rfl
  | r :: rs, k => by unfold rulesGo; rw [List.length_cons, List.length_cons, rulesGo_len rs (k + 1)]
theorem lf_encR (r : Rl) : lf r.enc = true := by
  simp [Rl.enc, lf, lfAll, lf_enc, lf_all]
  exact fun d _ => lf_encd d
theorem lf_encM (m : Md) : lf m.enc = true := by
  simp [Md.enc, lf, lfAll, lf_all]
  exact fun r _ => lf_encR r
theorem lf_modes (ms : List Md) : lfAll (ms.map Md.enc) = true := lf_all.mpr fun x hx => by
  obtain ⟨m, _, rfl⟩ := List.mem_map.mp hx
  exact lf_encM m
theorem lf_rules (ms : List Rl) : lfAll (ms.map Rl.enc) = true := lf_all.mpr fun x hx => by
  obtain ⟨m, _, rfl⟩ := List.mem_map.mp hx
  exact lf_encR m
theorem putD_dis {i : Nat} {xs : List D} {a f : Bool} {δ : List SD} {Q : List SD → Prop} (h : (a || lfAll xs) = false) (q : Q ((δ.map disown).set i (.d (.tuple xs)))) : putD i (.tuple xs) a f δ Q := by
  dsimp only [putD]
  rw [if_neg (by rw [h]; decide)]
  exact q
def tbModes : TSd := tdExtendA 12 (tdLc (tdEnum (tdBin ixD (tdVar 9) (tdC (.int 2)))) (gdTup 2 (gdCons (putD 14) (gdCons (putD 15) gdNil))) (fun _ R => R true) (tdCall (tdCons (tdVar 0) (tdCons (tdVar 11) (tdCons (tdVar 15) (tdCons (tdTup (tdCons (tdC (.int 4)) (tdCons (tdVar 13) (tdCons (tdC (.int 2)) (tdCons (tdVar 14) tdNil))))) tdNil)))) g_wrong_rule) (([("r", 14), ("rule", 15)] : List (Str × Nat)).map (·.2)))
theorem modes_go {names acts fl md : List Str} {x1 x2 x3 x4 x5 x6 x7 x8 x10 : D} {E : DEnds} {p : Addr} : ∀ (ms : List Md) (i : Nat) (found : List D) (s9 s13 : SD), (∀ m ∈ ms, m.ok) → found.length + 12 * ms.length ≤ 500 → lfAll found = true →
    (∀ s9 s13, (found ++ modesGo names acts fl md i ms).length ≤ 500 → lfAll (found ++ modesGo names acts fl md i ms) = true → E.nx [.d (dT (names.map dS)), .d x1, .d x2, .d x3, .d x4, .d x5, .d x6, .d x7, .d x8, s9, .d x10, .d (dTold acts fl md), .own p (found ++ modesGo names acts fl md i ms), s13, .un, .un]) →
    forGo (gdTup 2 (gdCons (putD 13) (gdCons (putD 9) gdNil))) tbModes E ((enT i ms).map fun x => .tuple [.int (x.1 : Nat), x.2.enc]) [.d (dT (names.map dS)), .d x1, .d x2, .d x3, .d x4, .d x5, .d x6, .d x7, .d x8, s9, .d x10, .d (dTold acts fl md), .own p found, s13, .un, .un]
  | [], i, found, s9, s13, _, hl, hf, r => by
    have := r s9 s13 (by simp [modesGo]; omega) (by simpa [modesGo] using hf)
    show E.nx _
    simpa [modesGo] using this
  | m :: ms, i, found, s9, s13, hm, hl, hf, r => by
    rw [List.length_cons] at hl
    have hmk := hm m (by simp)
    have hrn := hmk.n
    show gdTup 2 (gdCons (putD 13) (gdCons (putD 9) gdNil)) (.tuple [.int (i : Nat), m.enc]) true false _ _
    refine gd2 rfl (lf_encM m) ?_
    unfold tbModes
    simp only [Md.enc]
    walk_at "dv"
    rw [enD_T]
    refine lcGo_mapT (fun x : Nat × Rl => .tuple [.int (x.1 : Nat), x.2.enc]) (fun x => optD (ruleF names acts fl md x.2 [dI 4, dI (i : Nat), dI 2, dI (x.1 : Nat)])) true (enT 0 m.rules) _ (fun x hx K h1 => ?_) (le_line (by rw [enT_len]; omega)) fun a' ha => ?_
    · refine gd2 rfl (lf_encR x.2) ?_
      walk_at "dv"
      exact ⟨rfl, le_line (by simp), names, acts, fl, md, x.2, _, rfl, by simp [lfAll, lf], by simp, hmk.rules x.2 (enT_mem hx).1, h1⟩
    · obtain rfl := ha rfl
      rw [rules_en]
      have hg := rulesGo_len (names := names) (acts := acts) (fl := fl) (md := md) (i := i) m.rules 0
      refine ⟨le_line (by rw [hg]; omega), .inl rfl, ?_⟩
      refine modes_go ms (i + 1) (found ++ rulesGo names acts fl md i 0 m.rules) _ _ (fun x hx => hm x (List.mem_cons_of_mem _ hx)) (by rw [List.length_append, hg]; omega) (by rw [lf_append, hf, lf_rulesGo]; rfl) fun s9 s13 h1 h2 => ?_
      have e : found ++ modesGo names acts fl md i (m :: ms) = found ++ rulesGo names acts fl md i 0 m.rules ++ modesGo names acts fl md (i + 1) ms := by
        rw [show modesGo names acts fl md i (m :: ms) = rulesGo names acts fl md i 0 m.rules ++ modesGo names acts fl md (i + 1) ms from rfl, List.append_assoc]
      rw [← e] at h1 h2 ⊢
      exact r s9 s13 h1 h2
theorem sem_wrong_program : ∀ ds R, g_wrong_program ds R → t_wrong_program { nx := fun _ => R .none false, rt := R } (startD N_wrong_program ds) := by
  rintro _ R ⟨names, acts, ⟨word, name, starts, flags, modes⟩, rfl, ⟨hw, hnm, hns, hst, hnf, hfl, hn0, hn, hm⟩, r⟩
  have hns : starts.length ≤ 20 := hns
  have hst : ∀ s ∈ starts, lt1 s := hst
  have hnf : flags.length ≤ 8 := hnf
  have hn : modes.length ≤ 8 := hn
  have hm : ∀ m ∈ modes, m.ok := hm
  unfold t_wrong_program
  simp only [Pg.enc]
  walk_at "dv"
  refine gd5 rfl rfl (lf_strs _) (lf_strs _) (lf_modes _) ?_
  walk_at "dv"
  refine ⟨le_line (by simp), acts, starts, [dI 2], rfl, hst, by simp [lfAll, lf], by omega, by simp, ?_⟩
  have h2 : lfAll [dI 2] = true := rfl
  have hN := isN_optD (actF acts starts [dI 2]) fun x e => ⟨lf_actF h2 x e, ne_actF x e⟩
  refine putD_lf (nd_optD (lf_actF h2)) ?_
  unfold progF at r
  dsimp only at r
  generalize actF acts starts [dI 2] = o at r hN ⊢
  cases o with
  | some f =>
    have hN : isNone f = false := hN
    simp only [optD]
    walk_at "dv"
    rw [hN]
    walk_at "dv"
    exact r
  | none =>
    simp only [optD]
    walk_at "dv"
    rw [show isNone PyData.none = true from rfl]
    walk_at "dv"
    refine lcGo_mapT Md.enc (fun m => dS m.name) true modes _ (fun m hm K h1 => ?_) (le_line (by omega)) fun a' ha => ?_
    · refine putD_lf (lf_encM m) ⟨rfl, ?_⟩
      simp only [Md.enc]
      walk_at "dv"
      exact h1
    · obtain rfl := ha rfl
      have ec : modes.map (fun m => dS m.name) = (modes.map (·.name)).map dS := by rw [List.map_map]; rfl
      rw [ec]
      refine putD_own (lf_strs _) fun p => ?_
      walk_at "dv"
      refine ⟨_, flags, rfl, rfl, by omega, ?_⟩
      have r : R (match twF flags with
        | some k => fault [dI 3, dI k] "twice"
        | none => match twF (modes.map (·.name)) with
          | some k => fault [dI 4, dI k, dI 0] "twice"
          | none => optD ((modesGo names acts flags (modes.map (·.name)) 0 modes).filter fun x => !isNone x).head?) false := r
      generalize hq : twF flags = t at r ⊢
      cases t with
      | some k =>
        refine Eq.mpr (if_pos rfl) ?_
        refine ⟨_, flags, rfl, rfl, by omega, ?_⟩
        rw [hq]
        exact ⟨le_line (by simp), le_line (by simp), r⟩
      | none =>
        refine Eq.mpr (if_neg (by decide)) ?_
        refine ⟨_, modes.map (·.name), rfl, rfl, by simp; omega, ?_⟩
        have r : R (match twF (modes.map (·.name)) with
          | some k => fault [dI 4, dI k, dI 0] "twice"
          | none => optD ((modesGo names acts flags (modes.map (·.name)) 0 modes).filter fun x => !isNone x).head?) false := r
        generalize hq2 : twF (modes.map (·.name)) = t at r ⊢
        cases t with
        | some k =>
          refine Eq.mpr (if_pos rfl) ?_
          refine ⟨_, modes.map (·.name), rfl, rfl, by simp; omega, ?_⟩
          rw [hq2]
          exact ⟨le_line (by simp), le_line (by simp), r⟩
        | none =>
          refine Eq.mpr (if_neg (by decide)) ?_
          refine ⟨le_line (by simp), le_line (by simp), ?_⟩
          refine putD_dis (by simp [lfAll, lf]) ?_
          simp only [List.map, disown, List.set]
          refine putD_own rfl fun p2 => ?_
          walk_at "dv"
          rw [enD_T]
          refine modes_go (fl := flags) modes 0 [] _ _ hm (by simp; omega) rfl fun s9 s13 h1 h2 => ?_
          walk_at "dv"
          rw [List.nil_append] at h1 h2
          exact ⟨_, rfl, h2, by omega, r⟩
theorem len_wrong_program : ∀ ds R, g_wrong_program ds R → ds.length = p_wrong_program.length := by rintro _ R ⟨_, _, _, rfl, _⟩; rfl
end Lw

set_option Elab.async false
set_option linter.all false
set_option maxRecDepth 100000
set_option maxHeartbeats 4000000
namespace Lw
open PySem PySem.Spec PyProof.Rows L2 DL
local macro_rules | `(tactic| walk_at "dl") => `(tactic| simp (config := { maxSteps := 4000000 }) only [tdSeq, tdSet, tdAsg, tdPar, tdPar3, tdLc, tdItVar, tdIt, tdEnum, tdRg1, tdRg2, tdFor, tdRet, tdRetVar, tdRetN, tdNext, tdIf, tdIfS, tdAnd, tdOr, tdNot, tdAndV, tdOrV, tdNotV, tdB, tdBin, tdChain, tdVar, tdC, tdLst, tdNil, tdCons, tdStar, tdTup, tdNeg, tdSl, tdO0, tdO1, tdRev, tdCall, tdCallS, tdCB, tdIsi, tdAppend, tdExtendA, tdAsgPop, tdPop, tdAppNotPop, tdParPop, tdSetIx, tdAug, eqD, inD, ixD, isN, addD, subD, mulD, modD, fdivD, ltD, leD, gtD, geD, lenD, tupD, listD, DL.intD, reprD, absD, c1, startD, startS, putD, List.map, List.replicate, List.length, wipeD, List.set, List.getElem?_cons_zero, List.getElem?_cons_succ, List.cons_append, List.nil_append, List.append_nil, Nat.sub_self, Nat.reduceSub, Nat.reduceAdd, List.getElem?_nil, Bool.and_true, Bool.true_and, Bool.false_and, Bool.and_false, Bool.or_true, Bool.true_or, Bool.or_false, Bool.false_or, if_true, Bool.false_eq_true, if_false, true_and, and_true, Bool.true_xor, Bool.false_xor, at0, at1, at2, at3, at4, Option.some.injEq, exists_eq_left', Bool.not_true, true_or, or_true, Bool.not_false, id_eq, imp_self, implies_true, lfAll, lf])
local macro_rules | `(tactic| walk_at "kw") => `(tactic| simp (config := { maxSteps := 4000000 }) only [kw_any_flag, kw_any_not, kw_any_and, kw_any_or, kw_any_do, kw_any_go, kw_any_set, kw_any_clear, kw_flag_any, kw_flag_not, kw_flag_and, kw_flag_or, kw_flag_do, kw_flag_go, kw_flag_set, kw_flag_clear, kw_not_any, kw_not_flag, kw_not_and, kw_not_or, kw_not_do, kw_not_go, kw_not_set, kw_not_clear, kw_and_any, kw_and_flag, kw_and_not, kw_and_or, kw_and_do, kw_and_go, kw_and_set, kw_and_clear, kw_or_any, kw_or_flag, kw_or_not, kw_or_and, kw_or_do, kw_or_go, kw_or_set, kw_or_clear, kw_do_any, kw_do_flag, kw_do_not, kw_do_and, kw_do_or, kw_do_go, kw_do_set, kw_do_clear, kw_go_any, kw_go_flag, kw_go_not, kw_go_and, kw_go_or, kw_go_do, kw_go_set, kw_go_clear, kw_set_any, kw_set_flag, kw_set_not, kw_set_and, kw_set_or, kw_set_do, kw_set_go, kw_set_clear, kw_clear_any, kw_clear_flag, kw_clear_not, kw_clear_and, kw_clear_or, kw_clear_do, kw_clear_go, kw_clear_set, eq_self, decide_false, decide_true, Bool.false_eq_true, if_false, if_true, Bool.not_true, Bool.not_false, List.any_cons, List.any_nil, Bool.or_false, Bool.false_or, Bool.or_true, Bool.true_or, Bool.false_xor, Bool.true_xor, eqvS])
local macro_rules | `(tactic| walk_at "dv") => `(tactic| simp (config := { maxSteps := 4000000 }) only [tdSeq, tdSet, tdAsg, tdPar, tdPar3, tdLc, tdItVar, tdIt, tdEnum, tdRg1, tdRg2, tdFor, tdRet, tdRetVar, tdRetN, tdNext, tdIf, tdIfS, tdAnd, tdOr, tdNot, tdAndV, tdOrV, tdNotV, tdB, tdBin, tdChain, tdVar, tdC, tdLst, tdNil, tdCons, tdStar, tdTup, tdNeg, tdSl, tdO0, tdO1, tdRev, tdCall, tdCallS, tdCB, tdIsi, tdAppend, tdExtendA, tdAsgPop, tdPop, tdAppNotPop, tdParPop, tdSetIx, tdAug, eqD, inD, ixD, isN, addD, subD, mulD, modD, fdivD, ltD, leD, gtD, geD, lenD, tupD, listD, DL.intD, reprD, absD, c1, startD, startS, List.map, List.replicate, List.length, wipeD, List.set, List.getElem?_cons_zero, List.getElem?_cons_succ, List.cons_append, List.nil_append, List.append_nil, Nat.sub_self, Nat.reduceSub, Nat.reduceAdd, List.getElem?_nil, Bool.and_true, Bool.true_and, Bool.false_and, Bool.and_false, Bool.or_true, Bool.true_or, Bool.or_false, Bool.false_or, if_true, Bool.false_eq_true, if_false, true_and, and_true, Bool.true_xor, Bool.false_xor, at0, at1, at2, at3, at4, Option.some.injEq, exists_eq_left', Bool.not_true, true_or, or_true, Bool.not_false, id_eq, imp_self, implies_true, lfAll, lf])
def kd2 : Cd → List Cd
  | .any | .flag _ => []
  | .not a => [a]
  | .and a b | .or a b => [a, b]
def rp (c : Cd) : List Cd := (post c).reverse
theorem rp_kids (c : Cd) : rp c = c :: (kd2 c).reverse.flatMap rp := by
  cases c <;> simp [rp, post, kd2]
theorem post_len : ∀ c : Cd, (post c).length = c.size
  | .any | .flag _ => rfl
  | .not a => by simp [post, Cd.size, post_len a]
  | .and a b | .or a b => by simp [post, Cd.size, post_len a, post_len b]; omega
theorem kd2_size (c : Cd) : ((kd2 c).map Cd.size).sum + 1 = c.size := by
  cases c <;> simp [kd2, Cd.size]
theorem sum_ge2 : ∀ l : List Cd, l.length ≤ (l.map Cd.size).sum
  | [] => Nat.le_refl _
  | x :: l => by
    have := sum_ge2 l
    have := size_pos x
    simp; omega
theorem flat_len2 : ∀ l : List Cd, (l.flatMap rp).length = (l.map Cd.size).sum
  | [] => rfl
  | x :: l => by
    rw [List.flatMap_cons, List.length_append, flat_len2 l]
    simp [rp, post_len]
def tbParts : TSd := tdSeq (tdAsgPop (putD 3) 2)
    (tdSeq (tdAppend 1 (tdVar 3))
    (tdIfS (tdB (tdBin (inD false) (tdBin ixD (tdVar 3) (tdC (.int 0))) (tdC (.tuple ((["not", "and", "or"] : List Str).map .str))))) (tdExtendA 2 (tdSl (tdVar 3) (tdO1 (tdC (.int 1))) tdO0)) tdNext))
theorem cut1 (x : D) (xs : List D) : cutD (x :: xs) (some 1) none = xs := cut_drop (k := 1)
theorem parts_body {E : DEnds} {d0 : D} {p1 p2 : Addr} {found l : List D} {s3 : SD} {x : Cd} (hfl : found.length ≤ 1000) (hll : l.length ≤ 1000)
    (h : ∀ s3, E.nx [.d d0, .own p1 (found ++ [x.enc]), .own p2 (l ++ (kd2 x).map Cd.enc), s3]) :
    tbParts E [.d d0, .own p1 found, .own p2 (l ++ [x.enc]), s3] := by
  unfold tbParts
  walk_at "dv"
  refine ⟨x.enc, by simp, ?_⟩
  refine putD_lf (lf_enc x) ?_
  rw [List.dropLast_concat]
  walk_at "dv"
  refine ⟨lt_line (by omega), ?_⟩
  cases x <;> (simp only [Cd.enc]; walk_at "dv"; walk_at "kw"; refine ⟨⟨rfl, rfl⟩, ?_⟩)
  · simpa [kd2, Cd.enc] using h (.d (dT [dS "any"]))
  · rename_i s
    simpa [kd2, Cd.enc] using h (.d (dT [dS "flag", dS s]))
  · rw [cut1]
    exact ⟨le_line (by simp; omega), h _⟩
  · rw [cut1]
    exact ⟨le_line (by simp; omega), h _⟩
  · rw [cut1]
    exact ⟨le_line (by simp; omega), h _⟩
theorem sem_parts_inmost_first : ∀ ds R, g_parts_inmost_first ds R → t_parts_inmost_first { nx := fun _ => R .none false, rt := R } (startD N_parts_inmost_first ds) := by
  rintro _ R ⟨c, rfl, ⟨hc1, hc2, hc3⟩, r⟩
  unfold t_parts_inmost_first
  walk_at "dv"
  refine ⟨le_line (by simp), le_line (by simp), ?_⟩
  refine putD_own rfl fun p1 => ?_
  refine putD_own (by simp [lfAll, lf_enc]) fun p2 => ?_
  walk_at "dv"
  refine ⟨fun m δ => ∃ (found line : List Cd) (s3 : SD), δ = [.d c.enc, .own p1 (found.map Cd.enc), .own p2 (line.map Cd.enc), s3] ∧ found ++ line.reverse.flatMap rp = rp c ∧ m = (line.map Cd.size).sum,
    ⟨_, [], [c], .un, rfl, by simp, rfl⟩, ?_⟩
  rintro m δ ⟨found, line, s3, rfl, hf, rfl⟩
  have htot : found.length + (line.map Cd.size).sum = c.size := by
    have := congrArg List.length hf
    rw [List.length_append, flat_len2, List.map_reverse, List.sum_reverse] at this
    rw [this]; simp [rp, post_len]
  have hll := sum_ge2 line
  refine tst_ne (i := 2) rfl ?_
  rcases List.eq_nil_or_concat line with rfl | ⟨l, x, rfl⟩
  · have : found = rp c := by simpa using hf
    rw [this]
    have e : ((rp c).map Cd.enc).reverse = (post c).map Cd.enc := by simp [rp]
    show R (.list ((rp c).map Cd.enc).reverse) true
    rw [e]
    exact r
  · have e1 : ((l.concat x).map Cd.enc) = l.map Cd.enc ++ [x.enc] := by simp
    have e2 : (!(l.map Cd.enc ++ [x.enc]).isEmpty) = true := by simp
    rw [e1, e2, if_pos rfl]
    rw [List.length_concat] at hll
    refine parts_body (found := found.map Cd.enc) (by simp; omega) (by simp; omega) fun s3 => ?_
    refine ⟨_, ?_, found ++ [x], l ++ kd2 x, s3, by simp, ?_, rfl⟩
    · have := kd2_size x
      simp [List.sum_append]
      omega
    · rw [← hf]
      simp [List.reverse_append, rp_kids x]
theorem len_parts_inmost_first : ∀ ds R, g_parts_inmost_first ds R → ds.length = p_parts_inmost_first.length := by rintro _ R ⟨_, rfl, _⟩; rfl
def tbHold : TSd := tdIfS (tdB (tdBin (eqD false) (tdBin ixD (tdVar 3) (tdC (.int 0))) (tdC (.str "any")))) (tdAppend 2 (tdC (.bool true))) (tdIfS (tdB (tdBin (eqD false) (tdBin ixD (tdVar 3) (tdC (.int 0))) (tdC (.str "flag")))) (tdAppend 2 (tdBin (inD false) (tdBin ixD (tdVar 3) (tdC (.int 1))) (tdVar 1))) (tdIfS (tdB (tdBin (eqD false) (tdBin ixD (tdVar 3) (tdC (.int 0))) (tdC (.str "not")))) (tdAppNotPop 2) (tdSeq (tdParPop 4 5 2)
    (tdAppend 2 (tdIf (tdB (tdBin (eqD false) (tdBin ixD (tdVar 3) (tdC (.int 0))) (tdC (.str "and")))) (tdAndV (tdVar 5) (tdVar 4)) (tdOrV (tdVar 5) (tdVar 4)))))))
theorem hold_go {fl : List Str} {d0 : D} {p : Addr} {E : DEnds} {rest : List D} : ∀ (c : Cd) (st : List D) (rest : List D) (s3 s4 s5 : SD), st.length + c.size ≤ 1000 →
    (∀ s3 s4 s5, forGo (putD 3) tbHold E rest [.d d0, .d (dT (fl.map dS)), .own p (st ++ [.bool (c.hd fl)]), s3, s4, s5]) → forGo (putD 3) tbHold E ((post c).map Cd.enc ++ rest) [.d d0, .d (dT (fl.map dS)), .own p st, s3, s4, s5]
  | .any, st, rest, s3, s4, s5, hl, h => by
    simp only [Cd.size] at hl
    refine putD_lf rfl ?_
    unfold tbHold
    simp only [Cd.enc]
    walk_at "dv"
    walk_at "kw"
    exact ⟨lt_line (by omega), h _ _ _⟩
  | .flag s, st, rest, s3, s4, s5, hl, h => by
    simp only [Cd.size] at hl
    refine putD_lf rfl ?_
    unfold tbHold
    simp only [Cd.enc]
    walk_at "dv"
    walk_at "kw"
    refine ⟨⟨rfl, flat_strs fl⟩, lt_line (by omega), ?_⟩
    rw [any_strs]
    exact h _ _ _
  | .not a, st, rest, s3, s4, s5, hl, h => by
    simp only [Cd.size] at hl
    have e : (post (.not a)).map Cd.enc ++ rest = (post a).map Cd.enc ++ ((Cd.not a).enc :: rest) := by simp [post]
    rw [e]
    refine hold_go (rest := rest) a st _ s3 s4 s5 (by omega) fun s3 s4 s5 => ?_
    refine putD_lf (lf_enc _) ?_
    unfold tbHold
    simp only [Cd.enc]
    walk_at "dv"
    walk_at "kw"
    refine ⟨a.hd fl, by simp, le_line (by simp; omega), ?_⟩
    rw [List.dropLast_concat]
    exact h _ _ _
  | .and a b, st, rest, s3, s4, s5, hl, h => by
    simp only [Cd.size] at hl
    have e : (post (.and a b)).map Cd.enc ++ rest = (post a).map Cd.enc ++ ((post b).map Cd.enc ++ ((Cd.and a b).enc :: rest)) := by simp [post]
    rw [e]
    refine hold_go (rest := rest) a st _ s3 s4 s5 (by omega) fun s3 s4 s5 => ?_
    refine hold_go (rest := rest) b _ _ s3 s4 s5 (by simp; omega) fun s3 s4 s5 => ?_
    refine putD_lf (lf_enc _) ?_
    unfold tbHold
    simp only [Cd.enc]
    walk_at "dv"
    walk_at "kw"
    refine ⟨st, .bool (b.hd fl), .bool (a.hd fl), by simp, rfl, rfl, ?_⟩
    simp only [List.set, List.getElem?_cons_zero, List.getElem?_cons_succ]
    have h := h
    simp only [Cd.hd] at h
    cases ha : a.hd fl with
    | true => rw [ha, Bool.true_and] at h; exact ⟨lt_line (by omega), h _ _ _⟩
    | false => rw [ha, Bool.false_and] at h; exact ⟨lt_line (by omega), h _ _ _⟩
  | .or a b, st, rest, s3, s4, s5, hl, h => by
    simp only [Cd.size] at hl
    have e : (post (.or a b)).map Cd.enc ++ rest = (post a).map Cd.enc ++ ((post b).map Cd.enc ++ ((Cd.or a b).enc :: rest)) := by simp [post]
    rw [e]
    refine hold_go (rest := rest) a st _ s3 s4 s5 (by omega) fun s3 s4 s5 => ?_
    refine hold_go (rest := rest) b _ _ s3 s4 s5 (by simp; omega) fun s3 s4 s5 => ?_
    refine putD_lf (lf_enc _) ?_
    unfold tbHold
    simp only [Cd.enc]
    walk_at "dv"
    walk_at "kw"
    refine ⟨st, .bool (b.hd fl), .bool (a.hd fl), by simp, rfl, rfl, ?_⟩
    simp only [List.set, List.getElem?_cons_zero, List.getElem?_cons_succ]
    have h := h
    simp only [Cd.hd] at h
    cases ha : a.hd fl with
    | true => rw [ha, Bool.true_or] at h; exact ⟨lt_line (by omega), h _ _ _⟩
    | false => rw [ha, Bool.false_or] at h; exact ⟨lt_line (by omega), h _ _ _⟩
theorem sem_holds : ∀ ds R, g_holds ds R → t_holds { nx := fun _ => R .none false, rt := R } (startD N_holds ds) := by
  rintro _ R ⟨c, fl, rfl, hc, r⟩
  have hc1 := hc.1
  unfold t_holds
  walk_at "dv"
  refine ⟨le_line (by simp), ?_⟩
  refine putD_own rfl fun p => ?_
  walk_at "dv"
  refine ⟨c, rfl, hc, ?_⟩
  have := hold_go (fl := fl) (d0 := c.enc) (p := p) (E := { nx := tdRet (tdBin ixD (tdVar 2) (tdC (.int 0))) { nx := fun _ => R .none false, rt := R }, rt := R }) (rest := []) c [] [] .un .un .un (by simp; omega) fun s3 s4 s5 => by
    unfold forGo
    walk_at "dv"
    exact r
  rw [List.append_nil] at this
  exact this
theorem len_holds : ∀ ds R, g_holds ds R → ds.length = p_holds.length := by rintro _ R ⟨_, _, rfl, _⟩; rfl
end Lw

set_option Elab.async false
set_option linter.all false
set_option maxRecDepth 100000
set_option maxHeartbeats 4000000
namespace Lw
open PySem PySem.Spec PyProof.Rows L2 DL
local macro_rules | `(tactic| walk_at "dl") => `(tactic| simp (config := { maxSteps := 4000000 }) only [tdSeq, tdSet, tdAsg, tdPar, tdPar3, tdLc, tdItVar, tdIt, tdEnum, tdRg1, tdRg2, tdFor, tdRet, tdRetVar, tdRetN, tdNext, tdIf, tdIfS, tdAnd, tdOr, tdNot, tdAndV, tdOrV, tdNotV, tdB, tdBin, tdChain, tdVar, tdC, tdLst, tdNil, tdCons, tdStar, tdTup, tdNeg, tdSl, tdO0, tdO1, tdRev, tdCall, tdCallS, tdCB, tdIsi, tdAppend, tdExtendA, tdAsgPop, tdPop, tdAppNotPop, tdParPop, tdSetIx, tdAug, eqD, inD, ixD, isN, addD, subD, mulD, modD, fdivD, ltD, leD, gtD, geD, lenD, tupD, listD, DL.intD, reprD, absD, c1, startD, startS, putD, List.map, List.replicate, List.length, wipeD, List.set, List.getElem?_cons_zero, List.getElem?_cons_succ, List.cons_append, List.nil_append, List.append_nil, Nat.sub_self, Nat.reduceSub, Nat.reduceAdd, List.getElem?_nil, Bool.and_true, Bool.true_and, Bool.false_and, Bool.and_false, Bool.or_true, Bool.true_or, Bool.or_false, Bool.false_or, if_true, Bool.false_eq_true, if_false, true_and, and_true, Bool.true_xor, Bool.false_xor, at0, at1, at2, at3, at4, Option.some.injEq, exists_eq_left', Bool.not_true, true_or, or_true, Bool.not_false, id_eq, imp_self, implies_true, lfAll, lf])
local macro_rules | `(tactic| walk_at "kw") => `(tactic| simp (config := { maxSteps := 4000000 }) only [kw_any_flag, kw_any_not, kw_any_and, kw_any_or, kw_any_do, kw_any_go, kw_any_set, kw_any_clear, kw_flag_any, kw_flag_not, kw_flag_and, kw_flag_or, kw_flag_do, kw_flag_go, kw_flag_set, kw_flag_clear, kw_not_any, kw_not_flag, kw_not_and, kw_not_or, kw_not_do, kw_not_go, kw_not_set, kw_not_clear, kw_and_any, kw_and_flag, kw_and_not, kw_and_or, kw_and_do, kw_and_go, kw_and_set, kw_and_clear, kw_or_any, kw_or_flag, kw_or_not, kw_or_and, kw_or_do, kw_or_go, kw_or_set, kw_or_clear, kw_do_any, kw_do_flag, kw_do_not, kw_do_and, kw_do_or, kw_do_go, kw_do_set, kw_do_clear, kw_go_any, kw_go_flag, kw_go_not, kw_go_and, kw_go_or, kw_go_do, kw_go_set, kw_go_clear, kw_set_any, kw_set_flag, kw_set_not, kw_set_and, kw_set_or, kw_set_do, kw_set_go, kw_set_clear, kw_clear_any, kw_clear_flag, kw_clear_not, kw_clear_and, kw_clear_or, kw_clear_do, kw_clear_go, kw_clear_set, eq_self, decide_false, decide_true, Bool.false_eq_true, if_false, if_true, Bool.not_true, Bool.not_false, List.any_cons, List.any_nil, Bool.or_false, Bool.false_or, Bool.or_true, Bool.true_or, Bool.false_xor, Bool.true_xor, eqvS])
local macro_rules | `(tactic| walk_at "dv") => `(tactic| simp (config := { maxSteps := 4000000 }) only [tdSeq, tdSet, tdAsg, tdPar, tdPar3, tdLc, tdItVar, tdIt, tdEnum, tdRg1, tdRg2, tdFor, tdRet, tdRetVar, tdRetN, tdNext, tdIf, tdIfS, tdAnd, tdOr, tdNot, tdAndV, tdOrV, tdNotV, tdB, tdBin, tdChain, tdVar, tdC, tdLst, tdNil, tdCons, tdStar, tdTup, tdNeg, tdSl, tdO0, tdO1, tdRev, tdCall, tdCallS, tdCB, tdIsi, tdAppend, tdExtendA, tdAsgPop, tdPop, tdAppNotPop, tdParPop, tdSetIx, tdAug, eqD, inD, ixD, isN, addD, subD, mulD, modD, fdivD, ltD, leD, gtD, geD, lenD, tupD, listD, DL.intD, reprD, absD, c1, startD, startS, List.map, List.replicate, List.length, wipeD, List.set, List.getElem?_cons_zero, List.getElem?_cons_succ, List.cons_append, List.nil_append, List.append_nil, Nat.sub_self, Nat.reduceSub, Nat.reduceAdd, List.getElem?_nil, Bool.and_true, Bool.true_and, Bool.false_and, Bool.and_false, Bool.or_true, Bool.true_or, Bool.or_false, Bool.false_or, if_true, Bool.false_eq_true, if_false, true_and, and_true, Bool.true_xor, Bool.false_xor, at0, at1, at2, at3, at4, Option.some.injEq, exists_eq_left', Bool.not_true, true_or, or_true, Bool.not_false, id_eq, imp_self, implies_true, lfAll, lf])
theorem sem_first_stand : ∀ ds R, g_first_stand ds R → t_first_stand { nx := fun _ => R .none false, rt := R } (startD N_first_stand ds) := by
  rintro _ R ⟨⟨word, name, starts, flags, modes⟩, m, ms, rfl, e, r⟩
  have e : modes = m :: ms := e
  subst e
  unfold t_first_stand
  simp only [Pg.enc, List.map_cons, Md.enc]
  walk_at "dv"
  exact ⟨le_line (by simp), le_line (by simp), r⟩
theorem len_first_stand : ∀ ds R, g_first_stand ds R → ds.length = p_first_stand.length := by rintro _ R ⟨_, _, _, rfl, _⟩; rfl
theorem find_filter {α : Type} {p : α → Bool} : ∀ {l : List α} {x : α}, l.find? p = some x → ∃ r, l.filter p = x :: r
  | [], _, e => by cases e
  | y :: l, x, e => by
    by_cases h : p y = true
    · rw [List.find?_cons_of_pos h] at e
      cases e
      exact ⟨l.filter p, by rw [List.filter_cons_of_pos h]⟩
    · rw [List.find?_cons_of_neg h] at e
      obtain ⟨r, hr⟩ := find_filter e
      exact ⟨r, by rw [List.filter_cons_of_neg h]; exact hr⟩
theorem find_none {α : Type} {p : α → Bool} {l : List α} (e : l.find? p = none) : l.filter p = [] := by
  rw [List.filter_eq_nil_iff]
  exact List.find?_eq_none.mp e
theorem sem_rules_of : ∀ ds R, g_rules_of ds R → t_rules_of { nx := fun _ => R .none false, rt := R } (startD N_rules_of ds) := by
  rintro _ R ⟨⟨word, name, starts, flags, modes⟩, md, rs, rfl, hz, e, r⟩
  have hz : modes.length ≤ 100 := hz
  have e : (modes.find? fun x => decide (x.name = md)).map (·.rules) = some rs := e
  obtain ⟨m, hm, rfl⟩ := Option.map_eq_some_iff.mp e
  obtain ⟨r0, hr0⟩ := find_filter hm
  unfold t_rules_of
  simp only [Pg.enc]
  walk_at "dv"
  refine ⟨dT (modes.map Md.enc), at_last rfl, ?_⟩
  walk_at "dv"
  refine lcGo_fmT Md.enc (fun x => decide (x.name = md)) (fun x => dT (x.rules.map Rl.enc)) true modes [] true _ (fun x hx K1 K2 h1 h2 => ?_) (le_line (by simp; omega)) fun a' ha => ?_
  · refine gd3 rfl rfl (lf_rules _) ?_
    walk_at "dv"
    cases hd : decide (x.name = md) with
    | true => exact ⟨rfl, h1 hd⟩
    | false => exact ⟨rfl, h2 hd⟩
  · obtain rfl := ha rfl
    rw [List.nil_append, hr0, List.map_cons]
    exact ⟨_, at0, r⟩
theorem len_rules_of : ∀ ds R, g_rules_of ds R → ds.length = p_rules_of.length := by rintro _ R ⟨_, _, _, rfl, _⟩; rfl
theorem ruleOf_mem {p : Pg} {m : Str} {rs : List Rl} (h : ruleOf p m = some rs) (hp : p.ok) : rs.length ≤ 12 ∧ ∀ r ∈ rs, r.ok := by
  unfold ruleOf at h
  obtain ⟨x, hx, rfl⟩ := Option.map_eq_some_iff.mp h
  have := hp.modes x (List.mem_of_find?_eq_some hx)
  exact ⟨this.n, this.rules⟩
theorem lf_deeds (ds : List Dd) : lfAll (ds.map Dd.enc) = true := lf_all.mpr fun x hx => by
  obtain ⟨d, _, rfl⟩ := List.mem_map.mp hx
  exact lf_encd d
theorem sem_first_acts : ∀ ds R, g_first_acts ds R → t_first_acts { nx := fun _ => R .none false, rt := R } (startD N_first_acts ds) := by
  rintro _ R ⟨p, m, nm, fl, rs, rfl, hp, hr, r⟩
  obtain ⟨hr1, hr2⟩ := ruleOf_mem hr hp
  have hpm := hp.n
  unfold t_first_acts
  walk_at "dv"
  refine ⟨p, m, rs, rfl, by omega, hr, ?_⟩
  refine putD_lf (lf_rules rs) ?_
  walk_at "dv"
  refine lcGo_fmT Rl.enc (fun x => decide (x.on = nm) && x.c.hd fl) (fun x => dT (x.ds.map Dd.enc)) true rs [] true _ (fun x hx K1 K2 h1 h2 => ?_) (le_line (by simp; omega)) fun a' ha => ?_
  · refine gd3 rfl (lf_enc _) (lf_deeds _) ?_
    walk_at "dv"
    cases hd : decide (x.on = nm) with
    | true =>
      refine ⟨rfl, x.c, fl, rfl, (hr2 x hx).c, ?_⟩
      walk_at "dv"
      cases hh : x.c.hd fl with
      | true => exact h1 (by rw [hd, hh]; rfl)
      | false => exact h2 (by rw [hd, hh]; rfl)
    | false => exact ⟨rfl, h2 (by rw [hd]; rfl)⟩
  · obtain rfl := ha rfl
    rw [List.nil_append]
    refine putD_own (lf_all.mpr fun z hz => by
      obtain ⟨x, _, rfl⟩ := List.mem_map.mp hz
      exact lf_deeds _) fun q => ?_
    unfold fitOf at r
    cases hf : rs.find? (fun x => decide (x.on = nm) && x.c.hd fl) with
    | none =>
      rw [hf] at r
      rw [find_none hf]
      exact first_else (i := 4) rfl (fun _ => r) fun y ys e => by cases e
    | some x =>
      rw [hf] at r
      obtain ⟨r0, hr0⟩ := find_filter hf
      rw [hr0, List.map_cons]
      refine first_else (i := 4) rfl (fun e => by cases e) fun y ys e => ?_
      walk_at "dv"
      exact r
theorem len_first_acts : ∀ ds R, g_first_acts ds R → ds.length = p_first_acts.length := by rintro _ R ⟨_, _, _, _, _, rfl, _⟩; rfl
def tbRead : TSd := tdIfS (tdB (tdBin (eqD false) (tdBin ixD (tdVar 7) (tdC (.int 0))) (tdC (.str "do")))) (tdSet 4 (tdBin ixD (tdVar 7) (tdC (.int 1)))) (tdIfS (tdB (tdBin (eqD false) (tdBin ixD (tdVar 7) (tdC (.int 0))) (tdC (.str "go")))) (tdSet 5 (tdBin ixD (tdVar 7) (tdC (.int 1)))) (tdIfS (tdB (tdBin (eqD false) (tdBin ixD (tdVar 7) (tdC (.int 0))) (tdC (.str "set")))) (tdSet 6 (tdTup (tdStar (tdVar 6) (tdCons (tdBin ixD (tdVar 7) (tdC (.int 1))) tdNil)))) (tdSet 6 (tdCB (tdCons (tdLc (tdItVar 6) (putD 8) (tdB (tdBin (eqD true) (tdVar 8) (tdBin ixD (tdVar 7) (tdC (.int 1))))) (tdVar 8) (([("flag", 8)] : List (Str × Nat)).map (·.2))) tdNil) (c1 tupD)))))
theorem read_go {E : DEnds} {d0 d1 d2 d3 : D} : ∀ (ds : List Dd) (done : D) (m : Str) (fl : List Str) (s7 : SD), fl.length + ds.length ≤ 500 →
    (∀ s7 (fl' : List Str), fl'.length ≤ 500 → runD ds (done, m, fl) = ((runD ds (done, m, fl)).1, (runD ds (done, m, fl)).2.1, fl') → E.nx [.d d0, .d d1, .d d2, .d d3, .d (runD ds (done, m, fl)).1, .d (dS (runD ds (done, m, fl)).2.1), .d (dT (fl'.map dS)), s7, .un]) →
    forGo (putD 7) tbRead E (ds.map Dd.enc) [.d d0, .d d1, .d d2, .d d3, .d done, .d (dS m), .d (dT (fl.map dS)), s7, .un]
  | [], done, m, fl, s7, hl, h => h s7 fl (by simpa using hl) rfl
  | .run ts :: ds, done, m, fl, s7, hl, h => by
    rw [List.length_cons] at hl
    refine putD_lf (lf_encd _) ?_
    unfold tbRead
    simp only [Dd.enc]
    walk_at "dv"
    walk_at "kw"
    refine putD_lf (lf_strs ts) ?_
    exact read_go ds (dT (ts.map dS)) m fl _ (by omega) h
  | .go s :: ds, done, m, fl, s7, hl, h => by
    rw [List.length_cons] at hl
    refine putD_lf (lf_encd _) ?_
    unfold tbRead
    simp only [Dd.enc]
    walk_at "dv"
    walk_at "kw"
    refine putD_lf rfl ?_
    exact read_go ds done s fl _ (by omega) h
  | .set s :: ds, done, m, fl, s7, hl, h => by
    rw [List.length_cons] at hl
    refine putD_lf (lf_encd _) ?_
    unfold tbRead
    simp only [Dd.enc]
    walk_at "dv"
    walk_at "kw"
    have e : fl.map dS ++ [dS s] = (fl ++ [s]).map dS := by simp
    rw [e]
    refine ⟨le_line (by simp; omega), putD_lf (lf_strs _) ?_⟩
    exact read_go ds done m (fl ++ [s]) _ (by simp; omega) h
  | .clear s :: ds, done, m, fl, s7, hl, h => by
    rw [List.length_cons] at hl
    refine putD_lf (lf_encd _) ?_
    unfold tbRead
    simp only [Dd.enc]
    walk_at "dv"
    walk_at "kw"
    refine lcGo_fmT dS (fun x => !decide (x = s)) dS true fl [] true _ (fun x hx K1 K2 h1 h2 => ?_) (le_line (by simp; omega)) fun a' ha => ?_
    · refine putD_lf rfl ?_
      walk_at "dv"
      cases hd : decide (x = s) with
      | true => exact ⟨rfl, h2 (by rw [hd]; rfl)⟩
      | false => exact ⟨rfl, h1 (by rw [hd]; rfl)⟩
    · rw [List.nil_append]
      refine putD_lf (lf_strs _) ?_
      have hle := List.length_filter_le (fun x => !decide (x = s)) fl
      exact read_go ds done m (fl.filter fun x => !decide (x = s)) _ (by omega) h
theorem lf_runD : ∀ (ds : List Dd) (x : D × Str × List Str), lf x.1 = true → lf (runD ds x).1 = true
  | [], x, h => h
  | .run ts :: ds, (d, m, fl), h => lf_runD ds _ (lf_strs ts)
  | .go s :: ds, (d, m, fl), h => lf_runD ds _ h
  | .set s :: ds, (d, m, fl), h => lf_runD ds _ h
  | .clear s :: ds, (d, m, fl), h => lf_runD ds _ h
theorem sem_name_read : ∀ ds R, g_name_read ds R → t_name_read { nx := fun _ => R .none false, rt := R } (startD N_name_read ds) := by
  rintro _ R ⟨p, m, nm, fl, rs, rfl, hp, hz, hr, r⟩
  obtain ⟨hr1, hr2⟩ := ruleOf_mem hr hp
  have hnf := hp.nf
  unfold t_name_read
  walk_at "dv"
  refine ⟨p, m, nm, fl, rs, rfl, hp, hr, ?_⟩
  unfold readF at r
  cases hf : fitOf rs fl nm with
  | none =>
    rw [hf] at r
    show putD 3 .none _ _ _ _
    refine putD_lf rfl ?_
    walk_at "dv"
    rw [show isNone PyData.none = true from rfl]
    walk_at "dv"
    exact r
  | some ds =>
    rw [hf] at r
    have r : R (dT [(runD ds (dT [], m, fl)).1, dT [dS (runD ds (dT [], m, fl)).2.1, dT ((p.flags.filter fun f => decide (f ∈ (runD ds (dT [], m, fl)).2.2)).map dS)]]) false := r
    have hds : ds.length ≤ 12 := by
      unfold fitOf at hf
      obtain ⟨x, hx, rfl⟩ := Option.map_eq_some_iff.mp hf
      exact (hr2 x (List.mem_of_find?_eq_some hx)).n
    show putD 3 (dT (ds.map Dd.enc)) _ _ _ _
    refine putD_lf (lf_deeds ds) ?_
    walk_at "dv"
    rw [show isNone (dT (ds.map Dd.enc)) = false from rfl]
    walk_at "dv"
    refine ⟨le_line (by simp), le_line (by simp), ?_⟩
    refine gd3 rfl rfl (lf_strs fl) ?_
    walk_at "dv"
    refine read_go ds (dT []) m fl _ (by omega) fun s7 fl' hl he => ?_
    have e : fl' = (runD ds (dT [], m, fl)).2.2 := (congrArg (fun x : D × Str × List Str => x.2.2) he).symm
    walk_at "dv"
    have ep : p.enc = dT [dS p.word, dS p.name, dT (p.starts.map dS), dT (p.flags.map dS), dT (p.modes.map Md.enc)] := rfl
    rw [ep]
    walk_at "dv"
    refine lcGo_fmT dS (fun x => decide (x ∈ fl')) dS true p.flags [] true _ (fun x hx K1 K2 h1 h2 => ?_) (le_line (by simp; omega)) fun a' ha => ?_
    · refine putD_lf rfl ⟨rfl, ?_⟩
      walk_at "dv"
      refine ⟨⟨rfl, flat_strs fl'⟩, ?_⟩
      rw [any_strs]
      cases hd : decide (x ∈ fl') with
      | true => exact h1 hd
      | false => exact h2 hd
    · rw [List.nil_append, e]
      exact ⟨le_line (by simp), le_line (by simp), r⟩
theorem len_name_read : ∀ ds R, g_name_read ds R → ds.length = p_name_read.length := by rintro _ R ⟨_, _, _, _, _, rfl, _⟩; rfl
end Lw

set_option Elab.async false
set_option linter.all false
set_option maxRecDepth 100000
set_option maxHeartbeats 4000000
namespace Lw
open PySem PySem.Spec PyProof.Rows L2 DL
local macro_rules | `(tactic| walk_at "dl") => `(tactic| simp (config := { maxSteps := 4000000 }) only [tdSeq, tdSet, tdAsg, tdPar, tdPar3, tdLc, tdItVar, tdIt, tdEnum, tdRg1, tdRg2, tdFor, tdRet, tdRetVar, tdRetN, tdNext, tdIf, tdIfS, tdAnd, tdOr, tdNot, tdAndV, tdOrV, tdNotV, tdB, tdBin, tdChain, tdVar, tdC, tdLst, tdNil, tdCons, tdStar, tdTup, tdNeg, tdSl, tdO0, tdO1, tdRev, tdCall, tdCallS, tdCB, tdIsi, tdAppend, tdExtendA, tdAsgPop, tdPop, tdAppNotPop, tdParPop, tdSetIx, tdAug, eqD, inD, ixD, isN, addD, subD, mulD, modD, fdivD, ltD, leD, gtD, geD, lenD, tupD, listD, DL.intD, reprD, absD, c1, startD, startS, putD, List.map, List.replicate, List.length, wipeD, List.set, List.getElem?_cons_zero, List.getElem?_cons_succ, List.cons_append, List.nil_append, List.append_nil, Nat.sub_self, Nat.reduceSub, Nat.reduceAdd, List.getElem?_nil, Bool.and_true, Bool.true_and, Bool.false_and, Bool.and_false, Bool.or_true, Bool.true_or, Bool.or_false, Bool.false_or, if_true, Bool.false_eq_true, if_false, true_and, and_true, Bool.true_xor, Bool.false_xor, at0, at1, at2, at3, at4, Option.some.injEq, exists_eq_left', Bool.not_true, true_or, or_true, Bool.not_false, id_eq, imp_self, implies_true, lfAll, lf])
local macro_rules | `(tactic| walk_at "kw") => `(tactic| simp (config := { maxSteps := 4000000 }) only [kw_any_flag, kw_any_not, kw_any_and, kw_any_or, kw_any_do, kw_any_go, kw_any_set, kw_any_clear, kw_flag_any, kw_flag_not, kw_flag_and, kw_flag_or, kw_flag_do, kw_flag_go, kw_flag_set, kw_flag_clear, kw_not_any, kw_not_flag, kw_not_and, kw_not_or, kw_not_do, kw_not_go, kw_not_set, kw_not_clear, kw_and_any, kw_and_flag, kw_and_not, kw_and_or, kw_and_do, kw_and_go, kw_and_set, kw_and_clear, kw_or_any, kw_or_flag, kw_or_not, kw_or_and, kw_or_do, kw_or_go, kw_or_set, kw_or_clear, kw_do_any, kw_do_flag, kw_do_not, kw_do_and, kw_do_or, kw_do_go, kw_do_set, kw_do_clear, kw_go_any, kw_go_flag, kw_go_not, kw_go_and, kw_go_or, kw_go_do, kw_go_set, kw_go_clear, kw_set_any, kw_set_flag, kw_set_not, kw_set_and, kw_set_or, kw_set_do, kw_set_go, kw_set_clear, kw_clear_any, kw_clear_flag, kw_clear_not, kw_clear_and, kw_clear_or, kw_clear_do, kw_clear_go, kw_clear_set, eq_self, decide_false, decide_true, Bool.false_eq_true, if_false, if_true, Bool.not_true, Bool.not_false, List.any_cons, List.any_nil, Bool.or_false, Bool.false_or, Bool.or_true, Bool.true_or, Bool.false_xor, Bool.true_xor, eqvS])
local macro_rules | `(tactic| walk_at "dv") => `(tactic| simp (config := { maxSteps := 4000000 }) only [tdSeq, tdSet, tdAsg, tdPar, tdPar3, tdLc, tdItVar, tdIt, tdEnum, tdRg1, tdRg2, tdFor, tdRet, tdRetVar, tdRetN, tdNext, tdIf, tdIfS, tdAnd, tdOr, tdNot, tdAndV, tdOrV, tdNotV, tdB, tdBin, tdChain, tdVar, tdC, tdLst, tdNil, tdCons, tdStar, tdTup, tdNeg, tdSl, tdO0, tdO1, tdRev, tdCall, tdCallS, tdCB, tdIsi, tdAppend, tdExtendA, tdAsgPop, tdPop, tdAppNotPop, tdParPop, tdSetIx, tdAug, eqD, inD, ixD, isN, addD, subD, mulD, modD, fdivD, ltD, leD, gtD, geD, lenD, tupD, listD, DL.intD, reprD, absD, c1, startD, startS, List.map, List.replicate, List.length, wipeD, List.set, List.getElem?_cons_zero, List.getElem?_cons_succ, List.cons_append, List.nil_append, List.append_nil, Nat.sub_self, Nat.reduceSub, Nat.reduceAdd, List.getElem?_nil, Bool.and_true, Bool.true_and, Bool.false_and, Bool.and_false, Bool.or_true, Bool.true_or, Bool.or_false, Bool.false_or, if_true, Bool.false_eq_true, if_false, true_and, and_true, Bool.true_xor, Bool.false_xor, at0, at1, at2, at3, at4, Option.some.injEq, exists_eq_left', Bool.not_true, true_or, or_true, Bool.not_false, id_eq, imp_self, implies_true, lfAll, lf])
theorem pick_lt {n : Nat} {k : Int} (h : k < max 1 (n : Int)) (hn : 0 < n) : k < n := by rw [Int.max_def] at h; split at h <;> omega
theorem at_int {α : Type} {xs : List α} {k : Int} (h0 : 0 ≤ k) (h1 : k < xs.length) : ∃ x, x ∈ xs ∧ atI xs k = some x := by
  have hk : k.toNat < xs.length := by omega
  refine ⟨xs[k.toNat], List.getElem_mem hk, ?_⟩
  have := at_nat (xs := xs) (k := k.toNat) (List.getElem?_eq_getElem hk)
  rwa [show ((k.toNat : Nat) : Int) = k by omega] at this
theorem sem_law_of : ∀ ds R, g_law_of ds R → t_law_of { nx := fun _ => R .none false, rt := R } (startS N_law_of ds) := by
  rintro _ R ⟨d, xs, rfl, hd, hne, hl, r⟩
  have hlen : 0 < xs.length := List.length_pos_iff.mpr hne
  unfold t_law_of
  cases d with
  | list ys =>
    cases hd
    walk_at "dv"
    refine ⟨_, rfl, by omega, fun k k0 k1 => ?_⟩
    obtain ⟨x, hx, e⟩ := at_int k0 (pick_lt k1 hlen)
    exact ⟨x, e, r x hx⟩
  | tuple ys =>
    cases hd
    walk_at "dv"
    refine ⟨_, rfl, by omega, fun k k0 k1 => ?_⟩
    obtain ⟨x, hx, e⟩ := at_int k0 (pick_lt k1 hlen)
    exact ⟨x, e, r x hx⟩
  | _ => cases hd
theorem len_law_of : ∀ ds R, g_law_of ds R → ds.length + 1 = p_law_of.length := by rintro _ R ⟨_, _, rfl, _⟩; rfl
theorem cut_m1 (xs : List D) : DL.cutD xs none (some (-1)) = xs.dropLast := by
  unfold DL.cutD
  rw [HT.sIx_none, List.drop_zero, List.dropLast_eq_take]
  have e : HT.sIx xs.length xs.length (some (-1)) - 0 = xs.length - 1 := by
    show (if (-1 : Int) < 0 then ((-1 : Int) + (xs.length : Int)).toNat else min (-1 : Int).toNat xs.length) - 0 = _
    rw [if_pos (by decide)]
    omega
  rw [e]
theorem cut_m1b (xs : List D) : (DL.cutD xs (some (-1)) none).length ≤ 1 := by
  unfold DL.cutD
  rw [HT.sIx_none]
  have e : HT.sIx xs.length 0 (some (-1)) = xs.length - 1 := by
    show (if (-1 : Int) < 0 then ((-1 : Int) + (xs.length : Int)).toNat else min (-1 : Int).toNat xs.length) = _
    rw [if_pos (by decide)]
    omega
  rw [e, List.length_take, List.length_drop]
  omega
def tbNet : TSd := tdSet 1 (tdIf (tdB (tdBin (eqD false) (tdSl (tdVar 1) (tdO1 (tdNeg (tdC (.int 1)))) tdO0) (tdTup (tdCons (tdBin subD (tdC (.int 0)) (tdVar 2)) tdNil)))) (tdSl (tdVar 1) tdO0 (tdO1 (tdNeg (tdC (.int 1))))) (tdBin addD (tdVar 1) (tdTup (tdCons (tdVar 2) tdNil))))
theorem lf_ints' (ns : List Int) : lfAll (ns.map dI) = true := lf_ints ns
theorem net_go {E : DEnds} {d0 : D} : ∀ (ns ys : List Int) (s2 : SD), ys.length + ns.length ≤ 1000 → (∀ (zs : List Int) s2, (∀ z ∈ zs, z ∈ ys ∨ z ∈ ns) → zs.length ≤ ys.length + ns.length → E.nx [.d d0, .d (dT (zs.map dI)), s2]) →
    forGo (putD 2) tbNet E (ns.map dI) [.d d0, .d (dT (ys.map dI)), s2]
  | [], ys, s2, _, h => h ys s2 (fun z hz => .inl hz) (by simp)
  | n :: ns, ys, s2, hl, h => by
    rw [List.length_cons] at hl
    refine putD_lf rfl ?_
    unfold tbNet
    walk_at "dv"
    refine ⟨le_line (by simp), Nat.le_trans (Nat.min_le_right _ _) (by simp [PyData.depth, PyData.depthAll]), ?_⟩
    have e1 : (ys.map dI).dropLast = ys.dropLast.map dI := by rw [List.map_dropLast]
    have e2 : ys.map dI ++ [dI n] = (ys ++ [n]).map dI := by simp
    split
    · rw [cut_m1, e1]
      refine putD_lf (lf_ints' _) (net_go ns ys.dropLast _ (by simp; omega) fun zs s2 hz hl2 => h zs s2 (fun z hzz => (hz z hzz).elim (fun q => .inl (List.dropLast_subset ys q)) fun q => .inr (List.mem_cons_of_mem _ q)) (by simp at hl2 ⊢; omega))
    · refine ⟨le_line (by simp), le_line (by simp; omega), ?_⟩
      rw [e2]
      refine putD_lf (lf_ints' _) (net_go ns (ys ++ [n]) _ (by simp; omega) fun zs s2 hz hl2 => h zs s2 (fun z hzz => (hz z hzz).elim (fun q => by
        rcases List.mem_append.mp q with q | q
        · exact .inl q
        · rw [List.mem_singleton.mp q]; exact .inr (by simp)) fun q => .inr (List.mem_cons_of_mem _ q)) (by simp at hl2 ⊢; omega))
theorem sem_law_net : ∀ ds R, g_law_net ds R → t_law_net { nx := fun _ => R .none false, rt := R } (startD N_law_net ds) := by
  rintro _ R ⟨ns, rfl, hl, r⟩
  unfold t_law_net
  walk_at "dv"
  refine ⟨le_line (by simp), putD_lf rfl ?_⟩
  walk_at "dv"
  refine net_go ns [] _ (by simp; omega) fun zs s2 hz hl2 => ?_
  exact r zs (fun z h => (hz z h).elim (fun q => by cases q) id) (by simpa using hl2)
theorem len_law_net : ∀ ds R, g_law_net ds R → ds.length = p_law_net.length := by rintro _ R ⟨_, rfl, _⟩; rfl
theorem signs_ok {k : Nat} (h1 : 1 ≤ k) (h3 : k ≤ 3) : ∃ ys : List Int, DL.cutD [dI 1, dI (-1), dI 2, dI (-2), dI 3, dI (-3)] none (some (2 * (k : Int))) = ys.map dI ∧ ys ≠ [] ∧ ys.length ≤ 6 ∧ ∀ y ∈ ys, okA k y := by
  have : k = 1 ∨ k = 2 ∨ k = 3 := by omega
  rcases this with rfl | rfl | rfl
  · exact ⟨[1, -1], rfl, by simp, by simp, by simp [okA]⟩
  · exact ⟨[1, -1, 2, -2], rfl, by simp, by simp, by simp [okA]⟩
  · exact ⟨[1, -1, 2, -2, 3, -3], rfl, by simp, by simp, by simp [okA]⟩
theorem sem_law_doing : ∀ ds R, g_law_doing ds R → t_law_doing { nx := fun _ => R .none false, rt := R } (startS N_law_doing ds) := by
  rintro _ R ⟨k, most, rfl, h1, h3, hm, r⟩
  obtain ⟨ss, es, hs0, hsl, hs⟩ := signs_ok h1 h3
  unfold t_law_doing
  walk_at "dv"
  refine ⟨le_line (by simp), .inl ⟨by decide, by decide⟩, ?_⟩
  rw [es]
  refine putD_own (lf_ints' _) fun p => ?_
  walk_at "dv"
  refine ⟨_, rfl, by omega, fun m m0 m1 => ?_⟩
  have m2 : m < (most : Int) + 1 := by rw [Int.max_def] at m1; split at m1 <;> omega
  clear m1
  refine ⟨by omega, by omega, ?_⟩
  refine lcGo_draw dI (fun y => y ∈ ss) false _ [] true _ (fun x hx K h => ?_) (le_line (by simp [rgD]; omega)) fun ys a' hy hyl ha => ?_
  · obtain ⟨i, _, rfl⟩ := rg_mem hx
    refine putD_lf rfl ⟨rfl, ?_⟩
    walk_at "dv"
    refine ⟨_, _, rfl, rfl, by simpa using hs0, by simp; omega, fun x hx => ?_⟩
    obtain ⟨y, hy, rfl⟩ := List.mem_map.mp hx
    exact h y hy
  · rw [List.nil_append]
    have hlen : ys.length ≤ most := by rw [hyl]; simp [rgD]; omega
    refine ⟨ys, rfl, by omega, fun zs hz hzl => r zs (fun y h => hs y (hy y (hz y h))) (by omega)⟩
theorem len_law_doing : ∀ ds R, g_law_doing ds R → ds.length + 1 = p_law_doing.length := by rintro _ R ⟨_, _, rfl, _⟩; rfl
end Lw

set_option Elab.async false
set_option linter.all false
set_option maxRecDepth 100000
set_option maxHeartbeats 4000000
namespace Lw
open PySem PySem.Spec PyProof.Rows L2 DL
local macro_rules | `(tactic| walk_at "dl") => `(tactic| simp (config := { maxSteps := 4000000 }) only [tdSeq, tdSet, tdAsg, tdPar, tdPar3, tdLc, tdItVar, tdIt, tdEnum, tdRg1, tdRg2, tdFor, tdRet, tdRetVar, tdRetN, tdNext, tdIf, tdIfS, tdAnd, tdOr, tdNot, tdAndV, tdOrV, tdNotV, tdB, tdBin, tdChain, tdVar, tdC, tdLst, tdNil, tdCons, tdStar, tdTup, tdNeg, tdSl, tdO0, tdO1, tdRev, tdCall, tdCallS, tdCB, tdIsi, tdAppend, tdExtendA, tdAsgPop, tdPop, tdAppNotPop, tdParPop, tdSetIx, tdAug, eqD, inD, ixD, isN, addD, subD, mulD, modD, fdivD, ltD, leD, gtD, geD, lenD, tupD, listD, DL.intD, reprD, absD, c1, startD, startS, putD, List.map, List.replicate, List.length, wipeD, List.set, List.getElem?_cons_zero, List.getElem?_cons_succ, List.cons_append, List.nil_append, List.append_nil, Nat.sub_self, Nat.reduceSub, Nat.reduceAdd, List.getElem?_nil, Bool.and_true, Bool.true_and, Bool.false_and, Bool.and_false, Bool.or_true, Bool.true_or, Bool.or_false, Bool.false_or, if_true, Bool.false_eq_true, if_false, true_and, and_true, Bool.true_xor, Bool.false_xor, at0, at1, at2, at3, at4, Option.some.injEq, exists_eq_left', Bool.not_true, true_or, or_true, Bool.not_false, id_eq, imp_self, implies_true, lfAll, lf])
local macro_rules | `(tactic| walk_at "kw") => `(tactic| simp (config := { maxSteps := 4000000 }) only [kw_any_flag, kw_any_not, kw_any_and, kw_any_or, kw_any_do, kw_any_go, kw_any_set, kw_any_clear, kw_flag_any, kw_flag_not, kw_flag_and, kw_flag_or, kw_flag_do, kw_flag_go, kw_flag_set, kw_flag_clear, kw_not_any, kw_not_flag, kw_not_and, kw_not_or, kw_not_do, kw_not_go, kw_not_set, kw_not_clear, kw_and_any, kw_and_flag, kw_and_not, kw_and_or, kw_and_do, kw_and_go, kw_and_set, kw_and_clear, kw_or_any, kw_or_flag, kw_or_not, kw_or_and, kw_or_do, kw_or_go, kw_or_set, kw_or_clear, kw_do_any, kw_do_flag, kw_do_not, kw_do_and, kw_do_or, kw_do_go, kw_do_set, kw_do_clear, kw_go_any, kw_go_flag, kw_go_not, kw_go_and, kw_go_or, kw_go_do, kw_go_set, kw_go_clear, kw_set_any, kw_set_flag, kw_set_not, kw_set_and, kw_set_or, kw_set_do, kw_set_go, kw_set_clear, kw_clear_any, kw_clear_flag, kw_clear_not, kw_clear_and, kw_clear_or, kw_clear_do, kw_clear_go, kw_clear_set, eq_self, decide_false, decide_true, Bool.false_eq_true, if_false, if_true, Bool.not_true, Bool.not_false, List.any_cons, List.any_nil, Bool.or_false, Bool.false_or, Bool.or_true, Bool.true_or, Bool.false_xor, Bool.true_xor, eqvS])
local macro_rules | `(tactic| walk_at "dv") => `(tactic| simp (config := { maxSteps := 4000000 }) only [tdSeq, tdSet, tdAsg, tdPar, tdPar3, tdLc, tdItVar, tdIt, tdEnum, tdRg1, tdRg2, tdFor, tdRet, tdRetVar, tdRetN, tdNext, tdIf, tdIfS, tdAnd, tdOr, tdNot, tdAndV, tdOrV, tdNotV, tdB, tdBin, tdChain, tdVar, tdC, tdLst, tdNil, tdCons, tdStar, tdTup, tdNeg, tdSl, tdO0, tdO1, tdRev, tdCall, tdCallS, tdCB, tdIsi, tdAppend, tdExtendA, tdAsgPop, tdPop, tdAppNotPop, tdParPop, tdSetIx, tdAug, eqD, inD, ixD, isN, addD, subD, mulD, modD, fdivD, ltD, leD, gtD, geD, lenD, tupD, listD, DL.intD, reprD, absD, c1, startD, startS, List.map, List.replicate, List.length, wipeD, List.set, List.getElem?_cons_zero, List.getElem?_cons_succ, List.cons_append, List.nil_append, List.append_nil, Nat.sub_self, Nat.reduceSub, Nat.reduceAdd, List.getElem?_nil, Bool.and_true, Bool.true_and, Bool.false_and, Bool.and_false, Bool.or_true, Bool.true_or, Bool.or_false, Bool.false_or, if_true, Bool.false_eq_true, if_false, true_and, and_true, Bool.true_xor, Bool.false_xor, at0, at1, at2, at3, at4, Option.some.injEq, exists_eq_left', Bool.not_true, true_or, or_true, Bool.not_false, id_eq, imp_self, implies_true, lfAll, lf])
theorem str_eta (a : Str) : (⟨a.cps.toList.toArray⟩ : Str) = a := by cases a; simp
theorem dash_cps : ("-" : Str).cps.toList = [45] := by decide
theorem len_cps (s : Str) : s.length = s.cps.toList.length := by show s.cps.size = _; simp
theorem base_plain {a : Str} (h : isU a = false) : base a = a := by unfold base; rw [if_neg (by rw [h]; decide)]
theorem base_dash (a : Str) : base (a ++ "-") = a := by
  have e : (a ++ ("-" : Str)).cps.toList = a.cps.toList ++ [45] := by rw [cps_append, dash_cps]
  unfold base isU
  rw [e, if_pos (by simp), List.dropLast_concat, str_eta]
theorem ltA_plain {acts : List Str} (hp : plainA acts) {a : Str} (h : a ∈ acts) : ltA acts a := by
  obtain ⟨h1, h2, h3⟩ := hp a h
  exact ⟨by rw [base_plain h3]; exact h, h1, by omega⟩
theorem ltA_dash {acts : List Str} (hp : plainA acts) {a : Str} (h : a ∈ acts) : ltA acts (a ++ "-") := by
  obtain ⟨h1, h2, h3⟩ := hp a h
  refine ⟨by rw [base_dash]; exact h, ?_, ?_⟩
  · rw [cps_append, dash_cps]; simp
  · rw [len_cps, cps_append, dash_cps, List.length_append]
    rw [len_cps] at h2
    rw [List.length_singleton]; omega
theorem sem_law_texts : ∀ ds R, g_law_texts ds R → t_law_texts { nx := fun _ => R .none false, rt := R } (startD N_law_texts ds) := by
  rintro _ R ⟨acts, ys, rfl, hp, hl, hy, r⟩
  unfold t_law_texts
  walk_at "dv"
  refine lcGo_draw dS (fun t => ltA acts t) true (ys.map dI) [] true _ (fun x hx K h => ?_) (le_line (by simp; omega)) fun ts a' ht htl ha => ?_
  · obtain ⟨y, hyy, rfl⟩ := List.mem_map.mp hx
    obtain ⟨y0, y1⟩ := hy y hyy
    refine putD_lf rfl ⟨rfl, ?_⟩
    walk_at "dv"
    by_cases hpos : 0 < y
    · rw [decide_eq_true hpos, if_pos rfl]
      obtain ⟨x, hx, e⟩ := at_int (xs := acts.map dS) (k := y - 1) (by omega) (by simp; omega)
      obtain ⟨a, ha, rfl⟩ := List.mem_map.mp hx
      exact ⟨_, e, h a (ltA_plain hp ha)⟩
    · rw [decide_eq_false hpos, if_neg (by decide)]
      obtain ⟨x, hx, e⟩ := at_int (xs := acts.map dS) (k := 0 - y - 1) (by omega) (by simp; omega)
      obtain ⟨a, ha, rfl⟩ := List.mem_map.mp hx
      refine ⟨_, e, ?_⟩
      obtain ⟨h1, h2, h3⟩ := hp a ha
      exact ⟨le_line (by rw [len_cps "-", dash_cps]; simp; omega), h (a ++ "-") (ltA_dash hp ha)⟩
  · rw [List.nil_append]
    exact r ts ht (by simpa using htl)
theorem len_law_texts : ∀ ds R, g_law_texts ds R → ds.length = p_law_texts.length := by rintro _ R ⟨_, _, rfl, _⟩; rfl
def tbCancel : TSd := tdSeq (tdPar 4 5 (tdCallS 0 (tdCons (tdBin addD (tdCB (tdCons (tdVar 2) tdNil) (c1 lenD)) (tdC (.int 1))) tdNil) g_law_pick) (tdCallS 0 (tdCons (tdSl (tdLst (tdCons (tdC (.int 1)) (tdCons (tdNeg (tdC (.int 1))) (tdCons (tdC (.int 2)) (tdCons (tdNeg (tdC (.int 2))) (tdCons (tdC (.int 3)) (tdCons (tdNeg (tdC (.int 3))) tdNil))))))) tdO0 (tdO1 (tdBin mulD (tdC (.int 2)) (tdVar 1)))) tdNil) g_law_of))
    (tdSet 2 (tdBin addD (tdBin addD (tdSl (tdVar 2) tdO0 (tdO1 (tdVar 4))) (tdTup (tdCons (tdVar 5) (tdCons (tdBin subD (tdC (.int 0)) (tdVar 5)) tdNil)))) (tdSl (tdVar 2) (tdO1 (tdVar 4)) tdO0)))
theorem cut_take' {xs : List D} {k : Int} (h : 0 ≤ k) : DL.cutD xs none (some k) = xs.take k.toNat := by
  have := cut_take (xs := xs) (k := k.toNat)
  rwa [show ((k.toNat : Nat) : Int) = k by omega] at this
theorem cut_drop' {xs : List D} {k : Int} (h : 0 ≤ k) : DL.cutD xs (some k) none = xs.drop k.toNat := by
  have := cut_drop (xs := xs) (k := k.toNat)
  rwa [show ((k.toNat : Nat) : Int) = k by omega] at this
theorem cancel_go {E : DEnds} {k : Nat} (h1 : 1 ≤ k) (h3 : k ≤ 3) : ∀ (xs : List D) (ys : List Int) (s3 s4 s5 : SD), (∀ x ∈ xs, lf x = true) → ys.length + 2 * xs.length ≤ 1000 → (∀ y ∈ ys, okA k y) →
    (∀ (zs : List Int) s3 s4 s5, (∀ z ∈ zs, okA k z) → zs.length ≤ ys.length + 2 * xs.length → E.nx [.src, .d (dI k), .d (dT (zs.map dI)), s3, s4, s5]) →
    forGo (putD 3) tbCancel E xs [.src, .d (dI k), .d (dT (ys.map dI)), s3, s4, s5]
  | [], ys, s3, s4, s5, _, hl, hy, h => h ys s3 s4 s5 hy (by simp)
  | x :: xs, ys, s3, s4, s5, hxs, hl, hy, h => by
    rw [List.length_cons] at hl
    obtain ⟨ss, es, hs0, hsl, hs⟩ := signs_ok h1 h3
    refine putD_lf (hxs x (by simp)) ?_
    unfold tbCancel
    walk_at "dv"
    refine ⟨_, rfl, by simp; omega, fun m m0 m1 => ?_⟩
    clear m1
    refine ⟨le_line (by simp), .inl ⟨by decide, by decide⟩, ?_⟩
    rw [es]
    refine ⟨_, _, rfl, rfl, by simpa using hs0, by simp; omega, fun x hx => ?_⟩
    obtain ⟨y, hyy, rfl⟩ := List.mem_map.mp hx
    refine putD_lf rfl (putD_lf rfl ?_)
    walk_at "dv"
    rw [cut_take' m0, cut_drop' m0]
    have e : (ys.map dI).take m.toNat ++ [dI y, dI (0 - y)] ++ (ys.map dI).drop m.toNat = (ys.take m.toNat ++ [y, 0 - y] ++ ys.drop m.toNat).map dI := by simp [List.map_take, List.map_drop]
    rw [e]
    refine ⟨le_line (by simp), le_line (by simp; omega), le_line (by simp; omega), putD_lf (lf_ints' _) ?_⟩
    have hlen : (ys.take m.toNat ++ [y, 0 - y] ++ ys.drop m.toNat).length = ys.length + 2 := by simp; omega
    refine cancel_go h1 h3 xs _ _ _ _ (fun z hz => hxs z (List.mem_cons_of_mem _ hz)) (by rw [hlen]; omega) (fun z hz => ?_) fun zs s3 s4 s5 hz hzl => h zs s3 s4 s5 hz (by rw [hlen] at hzl; simp; omega)
    obtain ⟨y0, y1⟩ := hs y hyy
    simp at hz
    rcases hz with hz | rfl | rfl | hz
    · exact hy z (List.mem_of_mem_take hz)
    · exact ⟨y0, y1⟩
    · exact ⟨by omega, by omega⟩
    · exact hy z (List.mem_of_mem_drop hz)
theorem sem_law_cancels : ∀ ds R, g_law_cancels ds R → t_law_cancels { nx := fun _ => R .none false, rt := R } (startS N_law_cancels ds) := by
  rintro _ R ⟨k, ys, rfl, h1, h3, hl, hy, r⟩
  unfold t_law_cancels
  walk_at "dv"
  refine ⟨le_line (by simp), _, _, rfl, rfl, by simp, by simp, fun x hx => ?_⟩
  obtain ⟨n, hn, rfl⟩ : ∃ n : Nat, n ≤ 2 ∧ x = dI n := by
    simp at hx
    rcases hx with rfl | rfl | rfl
    · exact ⟨0, by omega, rfl⟩
    · exact ⟨1, by omega, rfl⟩
    · exact ⟨2, by omega, rfl⟩
  walk_at "dv"
  refine ⟨by omega, by omega, ?_⟩
  have hrl : (rgD 0 (n : Int).toNat).length = n := by simp [rgD]
  refine cancel_go h1 h3 _ ys _ _ _ (fun x hx => by obtain ⟨i, _, rfl⟩ := rg_mem hx; rfl) (by rw [hrl]; omega) hy fun zs s3 s4 s5 hz hzl => ?_
  exact r zs hz (by rw [hrl] at hzl; omega)
theorem len_law_cancels : ∀ ds R, g_law_cancels ds R → ds.length + 1 = p_law_cancels.length := by rintro _ R ⟨_, _, rfl, _⟩; rfl
end Lw

set_option Elab.async false
set_option linter.all false
set_option maxRecDepth 100000
set_option maxHeartbeats 4000000
namespace Lw
open PySem PySem.Spec PyProof.Rows L2 DL
local macro_rules | `(tactic| walk_at "dl") => `(tactic| simp (config := { maxSteps := 4000000 }) only [tdSeq, tdSet, tdAsg, tdPar, tdPar3, tdLc, tdItVar, tdIt, tdEnum, tdRg1, tdRg2, tdFor, tdRet, tdRetVar, tdRetN, tdNext, tdIf, tdIfS, tdAnd, tdOr, tdNot, tdAndV, tdOrV, tdNotV, tdB, tdBin, tdChain, tdVar, tdC, tdLst, tdNil, tdCons, tdStar, tdTup, tdNeg, tdSl, tdO0, tdO1, tdRev, tdCall, tdCallS, tdCB, tdIsi, tdAppend, tdExtendA, tdAsgPop, tdPop, tdAppNotPop, tdParPop, tdSetIx, tdAug, eqD, inD, ixD, isN, addD, subD, mulD, modD, fdivD, ltD, leD, gtD, geD, lenD, tupD, listD, DL.intD, reprD, absD, c1, startD, startS, putD, List.map, List.replicate, List.length, wipeD, List.set, List.getElem?_cons_zero, List.getElem?_cons_succ, List.cons_append, List.nil_append, List.append_nil, Nat.sub_self, Nat.reduceSub, Nat.reduceAdd, List.getElem?_nil, Bool.and_true, Bool.true_and, Bool.false_and, Bool.and_false, Bool.or_true, Bool.true_or, Bool.or_false, Bool.false_or, if_true, Bool.false_eq_true, if_false, true_and, and_true, Bool.true_xor, Bool.false_xor, at0, at1, at2, at3, at4, Option.some.injEq, exists_eq_left', Bool.not_true, true_or, or_true, Bool.not_false, id_eq, imp_self, implies_true, lfAll, lf])
local macro_rules | `(tactic| walk_at "kw") => `(tactic| simp (config := { maxSteps := 4000000 }) only [kw_any_flag, kw_any_not, kw_any_and, kw_any_or, kw_any_do, kw_any_go, kw_any_set, kw_any_clear, kw_flag_any, kw_flag_not, kw_flag_and, kw_flag_or, kw_flag_do, kw_flag_go, kw_flag_set, kw_flag_clear, kw_not_any, kw_not_flag, kw_not_and, kw_not_or, kw_not_do, kw_not_go, kw_not_set, kw_not_clear, kw_and_any, kw_and_flag, kw_and_not, kw_and_or, kw_and_do, kw_and_go, kw_and_set, kw_and_clear, kw_or_any, kw_or_flag, kw_or_not, kw_or_and, kw_or_do, kw_or_go, kw_or_set, kw_or_clear, kw_do_any, kw_do_flag, kw_do_not, kw_do_and, kw_do_or, kw_do_go, kw_do_set, kw_do_clear, kw_go_any, kw_go_flag, kw_go_not, kw_go_and, kw_go_or, kw_go_do, kw_go_set, kw_go_clear, kw_set_any, kw_set_flag, kw_set_not, kw_set_and, kw_set_or, kw_set_do, kw_set_go, kw_set_clear, kw_clear_any, kw_clear_flag, kw_clear_not, kw_clear_and, kw_clear_or, kw_clear_do, kw_clear_go, kw_clear_set, eq_self, decide_false, decide_true, Bool.false_eq_true, if_false, if_true, Bool.not_true, Bool.not_false, List.any_cons, List.any_nil, Bool.or_false, Bool.false_or, Bool.or_true, Bool.true_or, Bool.false_xor, Bool.true_xor, eqvS])
local macro_rules | `(tactic| walk_at "dv") => `(tactic| simp (config := { maxSteps := 4000000 }) only [tdSeq, tdSet, tdAsg, tdPar, tdPar3, tdLc, tdItVar, tdIt, tdEnum, tdRg1, tdRg2, tdFor, tdRet, tdRetVar, tdRetN, tdNext, tdIf, tdIfS, tdAnd, tdOr, tdNot, tdAndV, tdOrV, tdNotV, tdB, tdBin, tdChain, tdVar, tdC, tdLst, tdNil, tdCons, tdStar, tdTup, tdNeg, tdSl, tdO0, tdO1, tdRev, tdCall, tdCallS, tdCB, tdIsi, tdAppend, tdExtendA, tdAsgPop, tdPop, tdAppNotPop, tdParPop, tdSetIx, tdAug, eqD, inD, ixD, isN, addD, subD, mulD, modD, fdivD, ltD, leD, gtD, geD, lenD, tupD, listD, DL.intD, reprD, absD, c1, startD, startS, List.map, List.replicate, List.length, wipeD, List.set, List.getElem?_cons_zero, List.getElem?_cons_succ, List.cons_append, List.nil_append, List.append_nil, Nat.sub_self, Nat.reduceSub, Nat.reduceAdd, List.getElem?_nil, Bool.and_true, Bool.true_and, Bool.false_and, Bool.and_false, Bool.or_true, Bool.true_or, Bool.or_false, Bool.false_or, if_true, Bool.false_eq_true, if_false, true_and, and_true, Bool.true_xor, Bool.false_xor, at0, at1, at2, at3, at4, Option.some.injEq, exists_eq_left', Bool.not_true, true_or, or_true, Bool.not_false, id_eq, imp_self, implies_true, lfAll, lf])
theorem lcGo_nil {g : TGd} {tt : TTd} {te : TEd} {δ : List SD} {acc : List D} {a : Bool} {R : List D → Bool → Prop} (h : R acc a) : lcGo g tt te δ [] acc a R := h
theorem lf_encs (cs : List Cd) : lfAll (cs.map Cd.enc) = true := lf_all.mpr fun x hx => by
  obtain ⟨c, _, rfl⟩ := List.mem_map.mp hx
  exact lf_enc c
theorem cond_fin {fl : List Str} {deep : Nat} {R : D → Bool → Prop} {w : Str} {cs : List Cd} (hd : 0 < deep) (hw : (∀ c : Cd, c.high ≤ deep + 1 → c.size + 1 ≤ 2 ^ (deep + 1) → (∀ s ∈ c.flags, s ∈ fl) → R c.enc false))
    (hc : ∀ c ∈ cs, c.high ≤ deep ∧ c.size + 1 ≤ 2 ^ deep ∧ ∀ s ∈ c.flags, s ∈ fl) (h : (w = "not" ∧ cs.length = 1) ∨ ((w = "and" ∨ w = "or") ∧ cs.length = 2)) : R (dT (dS w :: cs.map Cd.enc)) false := by
  have e2 : 2 ^ (deep + 1) = 2 ^ deep + 2 ^ deep := by rw [Nat.pow_succ]; omega
  have e1 : 1 ≤ 2 ^ deep := Nat.one_le_two_pow
  rcases h with ⟨rfl, hl⟩ | ⟨hw2, hl⟩
  · match cs, hl with
    | [a], _ =>
      obtain ⟨a1, a2, a3⟩ := hc a (by simp)
      exact hw (.not a) (by simp [Cd.high]; omega) (by simp [Cd.size]; omega) (by simpa [Cd.flags] using a3)
  · match cs, hl with
    | [a, b], _ =>
      obtain ⟨a1, a2, a3⟩ := hc a (by simp)
      obtain ⟨b1, b2, b3⟩ := hc b (by simp)
      have hf : ∀ s ∈ a.flags ++ b.flags, s ∈ fl := fun s hs => (List.mem_append.mp hs).elim (a3 s) (b3 s)
      rcases hw2 with rfl | rfl
      · exact hw (.and a b) (by simp [Cd.high]; omega) (by simp [Cd.size]; omega) hf
      · exact hw (.or a b) (by simp [Cd.high]; omega) (by simp [Cd.size]; omega) hf
theorem sem_law_condition (n : Nat) : ∀ ds R, g_law_condition (n + 1) ds R → t_law_condition (g_law_condition n) { nx := fun _ => R .none false, rt := R } (startS N_law_condition ds) := by
  rintro _ R ⟨fl, deep, rfl, hd, hn, hfl, r⟩
  unfold t_law_condition
  walk_at "dv"
  refine ⟨8, rfl, by decide, fun way w0 w1 => ?_⟩
  have w2 : way < 8 := w1
  clear w1
  refine putD_lf rfl ?_
  walk_at "dv"
  have small : 2 ≤ 2 ^ (deep + 1) := by
    have : 1 ≤ 2 ^ deep := Nat.one_le_two_pow
    rw [Nat.pow_succ]; omega
  have rest : 0 ≤ sizeLine ∧ min (PyData.depth (dT (fl.map dS))) (PyData.tuple []).depth ≤ 64 ∧ (if PyData.eqv (dT (fl.map dS)) (PyData.tuple []) = true then 1 ≤ sizeLine ∧ R (dT [dS "any"]) false else if decide (way = 4) = true then 1 ≤ sizeLine ∧ R (dT [dS "any"]) false else
      g_law_of [PyData.list (fl.map dS)] fun d f => 2 ≤ sizeLine ∧ R (dT [dS "flag", d]) false) := by
    refine ⟨Nat.zero_le _, min_nilT _, ?_⟩
    rw [eqv_nilT]
    split
    · exact ⟨le_line (by simp), r .any (by simp [Cd.high]) (by simpa [Cd.size] using small) (by simp [Cd.flags])⟩
    · rename_i hne
      split
      · exact ⟨le_line (by simp), r .any (by simp [Cd.high]) (by simpa [Cd.size] using small) (by simp [Cd.flags])⟩
      · refine ⟨_, _, rfl, rfl, by simpa using hne, by simp; omega, fun x hx => ?_⟩
        obtain ⟨s, hs, rfl⟩ := List.mem_map.mp hx
        exact ⟨le_line (by simp), r (.flag s) (by simp [Cd.high]) (by simpa [Cd.size] using small) (by simpa [Cd.flags] using hs)⟩
  by_cases h1 : 0 < (deep : Int)
  · rw [decide_eq_true h1, if_pos rfl]
    by_cases h2 : way < 4
    · rw [decide_eq_true h2, if_pos rfl]
      have h0 : 0 < deep := by omega
      have draw : ∀ (many : Int) (nm : Nat), many = nm → nm ≤ 2 → (∀ cs : List Cd, cs.length = nm → (∀ c ∈ cs, c.high ≤ deep ∧ c.size + 1 ≤ 2 ^ deep ∧ ∀ s ∈ c.flags, s ∈ fl) → ∀ p, tdRet (tdBin addD (tdTup (tdCons (tdBin ixD (tdLst (tdCons (tdC (.str "not")) (tdCons (tdC (.str "not")) (tdCons (tdC (.str "and")) (tdCons (tdC (.str "or")) tdNil))))) (tdVar 3)) tdNil)) (tdCB (tdCons (tdVar 4) tdNil) (c1 tupD)))
          { nx := tdSeq (tdIfS (tdOr (tdB (tdBin (eqD false) (tdVar 1) (tdTup tdNil))) (tdB (tdBin (eqD false) (tdVar 3) (tdC (.int 4))))) (tdRet (tdTup (tdCons (tdC (.str "any")) tdNil))) tdNext) (tdRet (tdTup (tdCons (tdC (.str "flag")) (tdCons (tdCallS 0 (tdCons (tdCB (tdCons (tdVar 1) tdNil) (c1 listD)) tdNil) g_law_of) tdNil)))) { nx := fun _ => R .none false, rt := R }, rt := R }
          [.src, .d (dT (fl.map dS)), .d (dI deep), .d (.int way), .own p (cs.map Cd.enc), .un]) →
          (-2 ^ 62 ≤ many) ∧ many < 2 ^ 62 ∧ lcGo (putD 5) (fun _ R => R true) (tdCallS 0 (tdCons (tdVar 1) (tdCons (tdBin subD (tdVar 2) (tdC (PyData.int 1))) tdNil)) (g_law_condition n)) [.src, .d (dT (fl.map dS)), .d (dI deep), .d (.int way), .un, .un] (rgD 0 many.toNat) [] true fun acc a =>
            putD 4 (.list acc) a true [.src, .d (dT (fl.map dS)), .d (dI deep), .d (.int way), .un, .un]
            (tdRet (tdBin addD (tdTup (tdCons (tdBin ixD (tdLst (tdCons (tdC (.str "not")) (tdCons (tdC (.str "not")) (tdCons (tdC (.str "and")) (tdCons (tdC (.str "or")) tdNil))))) (tdVar 3)) tdNil)) (tdCB (tdCons (tdVar 4) tdNil) (c1 tupD)))
          { nx := tdSeq (tdIfS (tdOr (tdB (tdBin (eqD false) (tdVar 1) (tdTup tdNil))) (tdB (tdBin (eqD false) (tdVar 3) (tdC (.int 4))))) (tdRet (tdTup (tdCons (tdC (.str "any")) tdNil))) tdNext) (tdRet (tdTup (tdCons (tdC (.str "flag")) (tdCons (tdCallS 0 (tdCons (tdCB (tdCons (tdVar 1) tdNil) (c1 listD)) tdNil) g_law_of) tdNil)))) { nx := fun _ => R .none false, rt := R }, rt := R }) := fun many nm hm hn2 K => by
        subst hm
        refine ⟨by omega, by omega, ?_⟩
        refine lcGo_draw Cd.enc (fun c => c.high ≤ deep ∧ c.size + 1 ≤ 2 ^ deep ∧ ∀ s ∈ c.flags, s ∈ fl) true _ [] true _ (fun x hx K1 h => ?_) (le_line (by simp [rgD]; omega)) fun cs a' hcs hcl ha => ?_
        · obtain ⟨i, _, rfl⟩ := rg_mem hx
          refine putD_lf rfl ⟨rfl, ?_⟩
          walk_at "dv"
          refine ⟨fl, deep - 1, ?_, by omega, by omega, hfl, fun c c1 c2 c3 => ?_⟩
          · rw [show ((deep - 1 : Nat) : Int) = (deep : Int) - 1 by omega]
          · rw [show deep - 1 + 1 = deep by omega] at c1 c2
            exact h c ⟨c1, c2, c3⟩
        · rw [List.nil_append]
          refine putD_own (lf_encs cs) fun p => ?_
          exact K cs (by rw [hcl]; simp [rgD]) hcs p
      have w3 : way = 0 ∨ way = 1 ∨ way = 2 ∨ way = 3 := by omega
      rcases w3 with rfl | rfl | rfl | rfl
      · refine draw _ 1 rfl (by omega) fun cs hl hcs p => ?_
        walk_at "dv"
        exact ⟨le_line (by simp), le_line (by simp), le_line (by simp; omega), cond_fin h0 r hcs (.inl ⟨rfl, hl⟩)⟩
      · refine draw _ 1 rfl (by omega) fun cs hl hcs p => ?_
        walk_at "dv"
        exact ⟨le_line (by simp), le_line (by simp), le_line (by simp; omega), cond_fin h0 r hcs (.inl ⟨rfl, hl⟩)⟩
      · refine draw _ 2 rfl (by omega) fun cs hl hcs p => ?_
        walk_at "dv"
        exact ⟨le_line (by simp), le_line (by simp), le_line (by simp; omega), cond_fin h0 r hcs (.inr ⟨.inl rfl, hl⟩)⟩
      · refine draw _ 2 rfl (by omega) fun cs hl hcs p => ?_
        walk_at "dv"
        exact ⟨le_line (by simp), le_line (by simp), le_line (by simp; omega), cond_fin h0 r hcs (.inr ⟨.inr rfl, hl⟩)⟩
    · rw [decide_eq_false h2, if_neg (by decide)]
      exact rest
  · rw [decide_eq_false h1, if_neg (by decide)]
    exact rest
theorem len_law_condition (n : Nat) : ∀ ds R, g_law_condition n ds R → ds.length + 1 = p_law_condition.length := by rintro _ R ⟨_, _, rfl, _⟩; rfl
theorem cutE (x : D) (xs : List D) : DL.cutD (x :: xs) (some 1) none = xs := cut_drop (k := 1)
theorem sem_law_holds (n : Nat) : ∀ ds R, g_law_holds (n + 1) ds R → t_law_holds (g_law_holds n) { nx := fun _ => R .none false, rt := R } (startD N_law_holds ds) := by
  rintro _ R ⟨c, fl, rfl, hh, r⟩
  unfold t_law_holds
  cases c with
  | any =>
    simp only [Cd.enc]
    walk_at "dv"
    walk_at "kw"
    exact r
  | flag s =>
    simp only [Cd.enc]
    walk_at "dv"
    walk_at "kw"
    refine ⟨⟨rfl, flat_strs fl⟩, ?_⟩
    rw [any_strs]
    exact r
  | not a =>
    simp only [Cd.high] at hh
    simp only [Cd.enc]
    walk_at "dv"
    walk_at "kw"
    rw [cutE]
    refine putD_lf (lf_enc a) ⟨rfl, ?_⟩
    walk_at "dv"
    refine ⟨a, fl, rfl, by omega, lt_line (by simp), ?_⟩
    refine lcGo_nil (putD_own (xs := [.bool (a.hd fl)]) rfl fun p => ?_)
    walk_at "dv"
    exact r
  | and a b =>
    simp only [Cd.high] at hh
    simp only [Cd.enc]
    walk_at "dv"
    walk_at "kw"
    rw [cutE]
    refine putD_lf (lf_enc a) ⟨rfl, ?_⟩
    walk_at "dv"
    refine ⟨a, fl, rfl, by omega, lt_line (by simp), ?_⟩
    refine putD_lf (lf_enc b) ⟨rfl, ?_⟩
    walk_at "dv"
    refine ⟨b, fl, rfl, by omega, lt_line (by simp), ?_⟩
    refine lcGo_nil (putD_own (xs := [.bool (a.hd fl), .bool (b.hd fl)]) rfl fun p => ?_)
    walk_at "dv"
    walk_at "kw"
    refine ⟨.inl ⟨rfl, rfl⟩, ?_⟩
    have r : R (.bool (a.hd fl && b.hd fl)) false := r
    revert r
    cases a.hd fl <;> cases b.hd fl <;> exact id
  | or a b =>
    simp only [Cd.high] at hh
    simp only [Cd.enc]
    walk_at "dv"
    walk_at "kw"
    rw [cutE]
    refine putD_lf (lf_enc a) ⟨rfl, ?_⟩
    walk_at "dv"
    refine ⟨a, fl, rfl, by omega, lt_line (by simp), ?_⟩
    refine putD_lf (lf_enc b) ⟨rfl, ?_⟩
    walk_at "dv"
    refine ⟨b, fl, rfl, by omega, lt_line (by simp), ?_⟩
    refine lcGo_nil (putD_own (xs := [.bool (a.hd fl), .bool (b.hd fl)]) rfl fun p => ?_)
    walk_at "dv"
    walk_at "kw"
    refine ⟨.inl ⟨rfl, rfl⟩, ?_⟩
    have r : R (.bool (a.hd fl || b.hd fl)) false := r
    revert r
    cases a.hd fl <;> cases b.hd fl <;> exact id
theorem len_law_holds (n : Nat) : ∀ ds R, g_law_holds n ds R → ds.length = p_law_holds.length := by rintro _ R ⟨_, _, rfl, _⟩; rfl
theorem parts_lf {c : Cd} {pl : List D} (hp : lfAll pl = true) : lfAll ((parts c pl).map encP) = true := lf_all.mpr fun x hx => by
  obtain ⟨y, hy, rfl⟩ := List.mem_map.mp hx
  exact lf_encP ((parts_mem hy).1 hp)
theorem sem_law_parts (n : Nat) : ∀ ds R, g_law_parts (n + 1) ds R → t_law_parts (g_law_parts n) { nx := fun _ => R .none false, rt := R } (startD N_law_parts ds) := by
  rintro _ R ⟨c, pl, rfl, hh, hp, hz, hs, r⟩
  have l1 : ∀ i : Int, lfAll (pl ++ [dI i]) = true := fun i => by simp [lf_append, hp, lfAll, lf]
  unfold t_law_parts
  cases c with
  | any =>
    simp only [Cd.enc]
    walk_at "dv"
    refine ⟨le_line (by simp), le_line (by simp), putD_own (by simp [lfAll, lf, hp]) fun p => ?_⟩
    walk_at "dv"
    walk_at "kw"
    exact ⟨le_line (by simp), ⟨rfl, rfl⟩, r⟩
  | flag s =>
    simp only [Cd.enc]
    walk_at "dv"
    refine ⟨le_line (by simp), le_line (by simp), putD_own (by simp [lfAll, lf, hp]) fun p => ?_⟩
    walk_at "dv"
    walk_at "kw"
    exact ⟨le_line (by simp), ⟨rfl, rfl⟩, r⟩
  | not a =>
    have hla := parts_len a (pl ++ [dI 1])
    simp only [Cd.high] at hh hz
    simp only [Cd.size] at hs
    simp only [Cd.enc]
    walk_at "dv"
    refine ⟨le_line (by simp), le_line (by simp), putD_own (by simp [lfAll, lf, hp, lf_enc]) fun p => ?_⟩
    walk_at "dv"
    walk_at "kw"
    refine ⟨le_line (by simp), ⟨rfl, rfl⟩, by decide, ?_⟩
    show forGo _ _ _ [.int 1] _
    refine putD_lf rfl ?_
    walk_at "dv"
    refine ⟨le_line (by simp), le_line (by simp; omega), a, pl ++ [dI 1], rfl, by omega, l1 1, by simp; omega, by omega, le_line (by simp; omega), ?_⟩
    refine putD_own (by rw [lf_append, parts_lf (l1 1)]; simp [lfAll, lf, hp, lf_enc]) fun p2 => ?_
    exact r
  | and a b =>
    have hla := parts_len a (pl ++ [dI 1])
    have hlb := parts_len b (pl ++ [dI 2])
    simp only [Cd.high] at hh hz
    simp only [Cd.size] at hs
    simp only [Cd.enc]
    walk_at "dv"
    refine ⟨le_line (by simp), le_line (by simp), putD_own (by simp [lfAll, lf, hp, lf_enc]) fun p => ?_⟩
    walk_at "dv"
    walk_at "kw"
    refine ⟨le_line (by simp), ⟨rfl, rfl⟩, by decide, ?_⟩
    show forGo _ _ _ [.int 1, .int 2] _
    refine putD_lf rfl ?_
    walk_at "dv"
    refine ⟨le_line (by simp), le_line (by simp; omega), a, pl ++ [dI 1], rfl, by omega, l1 1, by simp; omega, by omega, le_line (by simp; omega), ?_⟩
    refine putD_own (by rw [lf_append, parts_lf (l1 1)]; simp [lfAll, lf, hp, lf_enc]) fun p2 => ?_
    walk_at "dv"
    refine putD_lf rfl ?_
    walk_at "dv"
    refine ⟨le_line (by simp), le_line (by simp; omega), b, pl ++ [dI 2], rfl, by omega, l1 2, by simp; omega, by omega, le_line (by simp; omega), ?_⟩
    refine putD_own (by rw [lf_append, parts_lf (l1 2)]; simp [lf_append, parts_lf (l1 1), lfAll, lf, hp, lf_enc]) fun p2 => ?_
    have e : [dT [dT pl, dT [dS "and", a.enc, b.enc]]] ++ (parts a (pl ++ [dI 1])).map encP ++ (parts b (pl ++ [dI 2])).map encP = (parts (.and a b) pl).map encP := by simp [parts, encP, Cd.enc]
    rw [← e] at r
    exact r
  | or a b =>
    have hla := parts_len a (pl ++ [dI 1])
    have hlb := parts_len b (pl ++ [dI 2])
    simp only [Cd.high] at hh hz
    simp only [Cd.size] at hs
    simp only [Cd.enc]
    walk_at "dv"
    refine ⟨le_line (by simp), le_line (by simp), putD_own (by simp [lfAll, lf, hp, lf_enc]) fun p => ?_⟩
    walk_at "dv"
    walk_at "kw"
    refine ⟨le_line (by simp), ⟨rfl, rfl⟩, by decide, ?_⟩
    show forGo _ _ _ [.int 1, .int 2] _
    refine putD_lf rfl ?_
    walk_at "dv"
    refine ⟨le_line (by simp), le_line (by simp; omega), a, pl ++ [dI 1], rfl, by omega, l1 1, by simp; omega, by omega, le_line (by simp; omega), ?_⟩
    refine putD_own (by rw [lf_append, parts_lf (l1 1)]; simp [lfAll, lf, hp, lf_enc]) fun p2 => ?_
    walk_at "dv"
    refine putD_lf rfl ?_
    walk_at "dv"
    refine ⟨le_line (by simp), le_line (by simp; omega), b, pl ++ [dI 2], rfl, by omega, l1 2, by simp; omega, by omega, le_line (by simp; omega), ?_⟩
    refine putD_own (by rw [lf_append, parts_lf (l1 2)]; simp [lf_append, parts_lf (l1 1), lfAll, lf, hp, lf_enc]) fun p2 => ?_
    have e : [dT [dT pl, dT [dS "or", a.enc, b.enc]]] ++ (parts a (pl ++ [dI 1])).map encP ++ (parts b (pl ++ [dI 2])).map encP = (parts (.or a b) pl).map encP := by simp [parts, encP, Cd.enc]
    rw [← e] at r
    exact r
theorem len_law_parts (n : Nat) : ∀ ds R, g_law_parts n ds R → ds.length = p_law_parts.length := by rintro _ R ⟨_, _, rfl, _⟩; rfl
theorem sem_law_flag_names : ∀ ds R, g_law_flag_names ds R → t_law_flag_names { nx := fun _ => R .none false, rt := R } (startD N_law_flag_names ds) := by
  rintro _ R ⟨c, rfl, hc, r⟩
  obtain ⟨hc1, hc2, hc3⟩ := id hc
  have hfs := flags_size c
  unfold t_law_flag_names
  walk_at "dv"
  refine ⟨le_line (by simp), c, [], rfl, by omega, rfl, by simp; omega, by omega, ?_⟩
  refine lcGo_fmT encP (fun x => isFl x.2) (fun x => dS (flOf x.2)) true (parts c []) [] true _ (fun x hx K1 K2 h1 h2 => ?_) (le_line (by rw [parts_len]; simp; omega)) fun a' ha => ?_
  · obtain ⟨q, x⟩ := x
    have hq : lfAll q = true := (parts_mem hx).1 rfl
    refine gd2 (show lf (dT q) = true from hq) (lf_enc x) ?_
    cases x <;> (simp only [Cd.enc]; walk_at "dv"; walk_at "kw")
    all_goals first | exact ⟨rfl, h2 rfl⟩ | exact ⟨rfl, h1 rfl⟩
  · obtain rfl := ha rfl
    have e : ((parts c []).filter fun x => isFl x.2).map (fun x => dS (flOf x.2)) = c.flags.map dS := by
      rw [← parts_flags c [], List.map_map]; rfl
    rw [List.nil_append, e]
    refine putD_own (lf_strs _) fun p => ?_
    walk_at "dv"
    refine ⟨rfl, ?_⟩
    refine lcGo_mapT dS (fun s => dT [dS s, .int 0]) true c.flags _ (fun s hs K h1 => ?_) (le_line (by omega)) fun a' ha => ?_
    · refine putD_lf rfl ⟨rfl, ?_⟩
      walk_at "dv"
      exact ⟨le_line (by simp), h1⟩
    · refine ⟨c.flags.map fun s => (s, .int 0), by simp, by simp; omega, fun ys hp hs => ?_⟩
      rw [List.map_map] at hp
      have : (Prod.fst ∘ fun s : Str => (s, PyData.int 0)) = id := rfl
      rw [this, List.map_id] at hp
      exact r ys hp hs
theorem len_law_flag_names : ∀ ds R, g_law_flag_names ds R → ds.length = p_law_flag_names.length := by rintro _ R ⟨_, rfl, _⟩; rfl
end Lw

set_option Elab.async false
set_option linter.all false
set_option maxRecDepth 100000
set_option maxHeartbeats 4000000
namespace Lw
open PySem PySem.Spec PyProof.Rows L2 DL
local macro_rules | `(tactic| walk_at "dl") => `(tactic| simp (config := { maxSteps := 4000000 }) only [tdSeq, tdSet, tdAsg, tdPar, tdPar3, tdLc, tdItVar, tdIt, tdEnum, tdRg1, tdRg2, tdFor, tdRet, tdRetVar, tdRetN, tdNext, tdIf, tdIfS, tdAnd, tdOr, tdNot, tdAndV, tdOrV, tdNotV, tdB, tdBin, tdChain, tdVar, tdC, tdLst, tdNil, tdCons, tdStar, tdTup, tdNeg, tdSl, tdO0, tdO1, tdRev, tdCall, tdCallS, tdCB, tdIsi, tdAppend, tdExtendA, tdAsgPop, tdPop, tdAppNotPop, tdParPop, tdSetIx, tdAug, eqD, inD, ixD, isN, addD, subD, mulD, modD, fdivD, ltD, leD, gtD, geD, lenD, tupD, listD, DL.intD, reprD, absD, c1, startD, startS, putD, List.map, List.replicate, List.length, wipeD, List.set, List.getElem?_cons_zero, List.getElem?_cons_succ, List.cons_append, List.nil_append, List.append_nil, Nat.sub_self, Nat.reduceSub, Nat.reduceAdd, List.getElem?_nil, Bool.and_true, Bool.true_and, Bool.false_and, Bool.and_false, Bool.or_true, Bool.true_or, Bool.or_false, Bool.false_or, if_true, Bool.false_eq_true, if_false, true_and, and_true, Bool.true_xor, Bool.false_xor, at0, at1, at2, at3, at4, Option.some.injEq, exists_eq_left', Bool.not_true, true_or, or_true, Bool.not_false, id_eq, imp_self, implies_true, lfAll, lf])
local macro_rules | `(tactic| walk_at "kw") => `(tactic| simp (config := { maxSteps := 4000000 }) only [kw_any_flag, kw_any_not, kw_any_and, kw_any_or, kw_any_do, kw_any_go, kw_any_set, kw_any_clear, kw_flag_any, kw_flag_not, kw_flag_and, kw_flag_or, kw_flag_do, kw_flag_go, kw_flag_set, kw_flag_clear, kw_not_any, kw_not_flag, kw_not_and, kw_not_or, kw_not_do, kw_not_go, kw_not_set, kw_not_clear, kw_and_any, kw_and_flag, kw_and_not, kw_and_or, kw_and_do, kw_and_go, kw_and_set, kw_and_clear, kw_or_any, kw_or_flag, kw_or_not, kw_or_and, kw_or_do, kw_or_go, kw_or_set, kw_or_clear, kw_do_any, kw_do_flag, kw_do_not, kw_do_and, kw_do_or, kw_do_go, kw_do_set, kw_do_clear, kw_go_any, kw_go_flag, kw_go_not, kw_go_and, kw_go_or, kw_go_do, kw_go_set, kw_go_clear, kw_set_any, kw_set_flag, kw_set_not, kw_set_and, kw_set_or, kw_set_do, kw_set_go, kw_set_clear, kw_clear_any, kw_clear_flag, kw_clear_not, kw_clear_and, kw_clear_or, kw_clear_do, kw_clear_go, kw_clear_set, eq_self, decide_false, decide_true, Bool.false_eq_true, if_false, if_true, Bool.not_true, Bool.not_false, List.any_cons, List.any_nil, Bool.or_false, Bool.false_or, Bool.or_true, Bool.true_or, Bool.false_xor, Bool.true_xor, eqvS])
local macro_rules | `(tactic| walk_at "dv") => `(tactic| simp (config := { maxSteps := 4000000 }) only [tdSeq, tdSet, tdAsg, tdPar, tdPar3, tdLc, tdItVar, tdIt, tdEnum, tdRg1, tdRg2, tdFor, tdRet, tdRetVar, tdRetN, tdNext, tdIf, tdIfS, tdAnd, tdOr, tdNot, tdAndV, tdOrV, tdNotV, tdB, tdBin, tdChain, tdVar, tdC, tdLst, tdNil, tdCons, tdStar, tdTup, tdNeg, tdSl, tdO0, tdO1, tdRev, tdCall, tdCallS, tdCB, tdIsi, tdAppend, tdExtendA, tdAsgPop, tdPop, tdAppNotPop, tdParPop, tdSetIx, tdAug, eqD, inD, ixD, isN, addD, subD, mulD, modD, fdivD, ltD, leD, gtD, geD, lenD, tupD, listD, DL.intD, reprD, absD, c1, startD, startS, List.map, List.replicate, List.length, wipeD, List.set, List.getElem?_cons_zero, List.getElem?_cons_succ, List.cons_append, List.nil_append, List.append_nil, Nat.sub_self, Nat.reduceSub, Nat.reduceAdd, List.getElem?_nil, Bool.and_true, Bool.true_and, Bool.false_and, Bool.and_false, Bool.or_true, Bool.true_or, Bool.or_false, Bool.false_or, if_true, Bool.false_eq_true, if_false, true_and, and_true, Bool.true_xor, Bool.false_xor, at0, at1, at2, at3, at4, Option.some.injEq, exists_eq_left', Bool.not_true, true_or, or_true, Bool.not_false, id_eq, imp_self, implies_true, lfAll, lf])
theorem cut_last (s : Str) {c : Nat} (h : s.cps.toList.getLast? = some c) : cutS s (some (-1)) none = ⟨#[c]⟩ := by
  have hne : s.cps.toList ≠ [] := fun z => by rw [z] at h; cases h
  have hl : s.length = s.cps.toList.length := len_cps s
  have h0 : 0 < s.cps.toList.length := List.length_pos_iff.mpr hne
  unfold cutS
  have e : HT.sIx s.length 0 (some (-1)) = s.cps.toList.length - 1 := by
    show (if (-1 : Int) < 0 then ((-1 : Int) + (s.length : Int)).toNat else min (-1 : Int).toNat s.length) = _
    rw [if_pos (by decide), hl]
    omega
  have e2 : s.cps.toList.drop (s.cps.toList.length - 1) = [c] := by
    obtain ⟨l, hl2⟩ : ∃ l, s.cps.toList = l ++ [c] := ⟨s.cps.toList.dropLast, by
      rw [List.getLast?_eq_some_getLast hne] at h
      cases h
      exact (List.dropLast_concat_getLast hne).symm⟩
    rw [hl2]; simp
  rw [e, e2, HT.sIx_none, List.take_of_length_le (by rw [List.length_singleton]; omega)]
theorem sem_law_twice : ∀ ds R, g_law_twice ds R → t_law_twice { nx := fun _ => R .none false, rt := R } (startD N_law_twice ds) := by
  rintro _ R ⟨d, ss, pl, k, rfl, hd, hz, hp, hk, hpl, hkl, r⟩
  have go : ∀ (rest : List Str) (i : Nat) (s3 s4 : SD), i + rest.length = ss.length → rest = ss.drop i → R (.list ((fIx (fun k x => decide (x ∈ ss.take k)) i rest).map fun i : Nat => fault (pl ++ [dI (i : Int)] ++ k) "twice").toList) true →
      (d = .list (ss.map dS) ∨ d = .tuple (ss.map dS)) → forGo (gdTup 2 (gdCons (putD 3) (gdCons (putD 4) gdNil))) (tdIfS (tdB (tdBin (inD false) (tdVar 4) (tdSl (tdVar 0) tdO0 (tdO1 (tdVar 3))))) (tdRet (tdLst (tdCons (tdTup (tdCons (tdBin addD (tdBin addD (tdVar 1) (tdTup (tdCons (tdVar 3) tdNil))) (tdVar 2)) (tdCons (tdC (.str "twice")) tdNil))) tdNil))) tdNext)
        { nx := tdRet (tdLst tdNil) { nx := fun _ => R .none false, rt := R }, rt := R } ((enT i rest).map fun x => .tuple [.int (x.1 : Nat), dS x.2]) [.d d, .d (dT pl), .d (dT k), s3, s4] := by
    intro rest
    induction rest with
    | nil =>
      intro i s3 s4 _ _ r _
      show tdRet (tdLst tdNil) { nx := fun _ => R .none false, rt := R } [.d d, .d (dT pl), .d (dT k), s3, s4]
      walk_at "dv"
      exact ⟨le_line (by simp), r⟩
    | cons x rest ih =>
      intro i s3 s4 hi he r hd
      rw [List.length_cons] at hi
      show gdTup 2 (gdCons (putD 3) (gdCons (putD 4) gdNil)) (.tuple [.int (i : Nat), dS x]) true false _ _
      refine gd2 rfl rfl ?_
      have e : DL.cutD (ss.map dS) none (some ((i : Nat) : Int)) = (ss.take i).map dS := by rw [cut_take, List.map_take]
      have key : ∀ b : Bool, b = decide (x ∈ ss.take i) → (if b = true then 1 ≤ sizeLine ∧ pl.length + 1 ≤ sizeLine ∧ (pl ++ [PyData.int (i : Nat)]).length + k.length ≤ sizeLine ∧ 2 ≤ sizeLine ∧ 1 ≤ sizeLine ∧ R (.list [.tuple [.tuple (pl ++ [PyData.int (i : Nat)] ++ k), dS "twice"]]) true else forGo (gdTup 2 (gdCons (putD 3) (gdCons (putD 4) gdNil))) (tdIfS (tdB (tdBin (inD false) (tdVar 4) (tdSl (tdVar 0) tdO0 (tdO1 (tdVar 3))))) (tdRet (tdLst (tdCons (tdTup (tdCons (tdBin addD (tdBin addD (tdVar 1) (tdTup (tdCons (tdVar 3) tdNil))) (tdVar 2)) (tdCons (tdC (.str "twice")) tdNil))) tdNil))) tdNext)
        { nx := tdRet (tdLst tdNil) { nx := fun _ => R .none false, rt := R }, rt := R } ((enT (i + 1) rest).map fun x => .tuple [.int (x.1 : Nat), dS x.2]) [.d d, .d (dT pl), .d (dT k), .d (.int (i : Nat)), .d (dS x)]) := fun b hb => by
        unfold fIx at r
        cases b with
        | true =>
          rw [← hb, if_pos rfl] at r
          rw [if_pos rfl]
          exact ⟨le_line (by simp), le_line (by omega), le_line (by simp; omega), le_line (by simp), le_line (by simp), r⟩
        | false =>
          rw [← hb, if_neg (by decide)] at r
          rw [if_neg (by decide)]
          refine ih (i + 1) _ _ (by omega) ?_ r hd
          rw [← List.drop_drop, ← he]; rfl
      rcases hd with rfl | rfl
      · walk_at "dv"
        rw [e]
        refine ⟨.inl ⟨rfl, flat_strs _⟩, ?_⟩
        exact key _ (any_strs (ss.take i) x)
      · walk_at "dv"
        rw [e]
        exact ⟨⟨rfl, flat_strs _⟩, key _ (any_strs (ss.take i) x)⟩
  unfold t_law_twice
  cases d with
  | list xs =>
    cases hd
    walk_at "dv"
    rw [enD_T]
    exact go ss 0 _ _ (by simp) rfl r (.inl rfl)
  | tuple xs =>
    cases hd
    walk_at "dv"
    rw [enD_T]
    exact go ss 0 _ _ (by simp) rfl r (.inr rfl)
  | _ => cases hd
theorem len_law_twice : ∀ ds R, g_law_twice ds R → ds.length = p_law_twice.length := by rintro _ R ⟨_, _, _, _, rfl, _⟩; rfl
def tbAW : TSd := tdIfS (tdB (tdBin (inD true) (tdIf (tdB (tdBin (eqD false) (tdSl (tdVar 4) (tdO1 (tdNeg (tdC (.int 1)))) tdO0) (tdC (.str "-")))) (tdSl (tdVar 4) tdO0 (tdO1 (tdNeg (tdC (.int 1))))) (tdVar 4)) (tdVar 0))) (tdRet (tdLst (tdCons (tdTup (tdCons (tdBin addD (tdVar 2) (tdTup (tdCons (tdVar 3) tdNil))) (tdCons (tdC (.str "act")) tdNil))) tdNil))) tdNext
theorem aw_go {acts : List Str} {pl : List D} {d1 : D} {R : D → Bool → Prop} {E : DEnds} (hE : E.rt = R) (hp : pl.length ≤ 100) : ∀ (rest : List Str) (i : Nat) (s3 s4 : SD), (∀ s ∈ rest, lt1 s) → (∀ k, fIx (fun _ x => !decide (base x ∈ acts)) i rest = some k → R (.list [fault (pl ++ [dI (k : Nat)]) "act"]) true) →
    (fIx (fun _ x => !decide (base x ∈ acts)) i rest = none → ∀ s3 s4, E.nx [.d (dT (acts.map dS)), .d d1, .d (dT pl), s3, s4]) →
    forGo (gdTup 2 (gdCons (putD 3) (gdCons (putD 4) gdNil))) tbAW E ((enT i rest).map fun x => .tuple [.int (x.1 : Nat), dS x.2]) [.d (dT (acts.map dS)), .d d1, .d (dT pl), s3, s4]
  | [], i, s3, s4, _, _, h2 => h2 rfl s3 s4
  | s :: rest, i, s3, s4, hs, h1, h2 => by
    obtain ⟨hs0, hsl⟩ := hs s (by simp)
    obtain ⟨c, hc⟩ := last_of hs0
    show gdTup 2 (gdCons (putD 3) (gdCons (putD 4) gdNil)) (.tuple [.int (i : Nat), dS s]) true false _ _
    refine gd2 rfl rfl ?_
    unfold fIx at h1 h2
    have key : ∀ b : Str, b = base s → (flatD (.str b) = true ∧ (acts.map dS).all flatD = true) ∧ (if (!(acts.map dS).any fun z => PyData.eqv z (.str b)) = true then 1 ≤ sizeLine ∧ pl.length + 1 ≤ sizeLine ∧ 2 ≤ sizeLine ∧ 1 ≤ sizeLine ∧ E.rt (.list [.tuple [.tuple (pl ++ [PyData.int (i : Nat)]), .str "act"]]) true else
        forGo (gdTup 2 (gdCons (putD 3) (gdCons (putD 4) gdNil))) tbAW E ((enT (i + 1) rest).map fun x => .tuple [.int (x.1 : Nat), dS x.2]) [.d (dT (acts.map dS)), .d d1, .d (dT pl), .d (.int (i : Nat)), .d (dS s)]) := fun b hb => by
      subst hb
      refine ⟨⟨rfl, flat_strs _⟩, ?_⟩
      rw [any_strs]
      cases hq : decide (base s ∈ acts) with
      | true =>
        rw [hq, if_neg (by decide)] at h1 h2
        rw [if_neg (by decide)]
        exact aw_go hE hp rest (i + 1) _ _ (fun s hs2 => hs s (List.mem_cons_of_mem _ hs2)) h1 h2
      | false =>
        rw [hq, if_pos (show (!false) = true from rfl)] at h1
        rw [if_pos (show (!false) = true from rfl), hE]
        exact ⟨le_line (by simp), le_line (by omega), le_line (by simp), le_line (by simp), h1 i rfl⟩
    have hl' : s.length ≤ sizeLine := le_line (by omega)
    unfold tbAW
    walk_at "dv"
    rw [cut_last s hc]
    refine ⟨hl', ?_⟩
    by_cases h45 : c = 45
    · rw [decide_eq_true ((str_one c).mpr h45), if_pos rfl]
      refine ⟨hl', ?_⟩
      exact key _ (by
        rw [cut_all_but_last s hs0]
        unfold base isU
        rw [hc, if_pos (by simp [h45])])
    · rw [decide_eq_false (fun z => h45 ((str_one c).mp z)), if_neg (by decide)]
      exact key _ (by
        unfold base isU
        rw [hc, if_neg (by simp [h45])])
theorem sem_law_acts_wrong : ∀ ds R, g_law_acts_wrong ds R → t_law_acts_wrong { nx := fun _ => R .none false, rt := R } (startD N_law_acts_wrong ds) := by
  rintro _ R ⟨acts, row, pl, rfl, hr, hp, hz, hz2, r⟩
  unfold t_law_acts_wrong
  walk_at "dv"
  rw [enD_T]
  unfold actF at r
  refine aw_go (R := R) rfl hz2 row 0 _ _ hr (fun k hk => ?_) fun hk s3 s4 => ?_
  · rw [hk] at r; exact r
  · rw [hk] at r
    walk_at "dv"
    exact ⟨le_line (by simp), r⟩
theorem len_law_acts_wrong : ∀ ds R, g_law_acts_wrong ds R → ds.length = p_law_acts_wrong.length := by rintro _ R ⟨_, _, _, rfl, _⟩; rfl
end Lw

set_option Elab.async false
set_option linter.all false
set_option maxRecDepth 100000
set_option maxHeartbeats 4000000
namespace Lw
open PySem PySem.Spec PyProof.Rows L2 DL
local macro_rules | `(tactic| walk_at "dl") => `(tactic| simp (config := { maxSteps := 4000000 }) only [tdSeq, tdSet, tdAsg, tdPar, tdPar3, tdLc, tdItVar, tdIt, tdEnum, tdRg1, tdRg2, tdFor, tdRet, tdRetVar, tdRetN, tdNext, tdIf, tdIfS, tdAnd, tdOr, tdNot, tdAndV, tdOrV, tdNotV, tdB, tdBin, tdChain, tdVar, tdC, tdLst, tdNil, tdCons, tdStar, tdTup, tdNeg, tdSl, tdO0, tdO1, tdRev, tdCall, tdCallS, tdCB, tdIsi, tdAppend, tdExtendA, tdAsgPop, tdPop, tdAppNotPop, tdParPop, tdSetIx, tdAug, eqD, inD, ixD, isN, addD, subD, mulD, modD, fdivD, ltD, leD, gtD, geD, lenD, tupD, listD, DL.intD, reprD, absD, c1, startD, startS, putD, List.map, List.replicate, List.length, wipeD, List.set, List.getElem?_cons_zero, List.getElem?_cons_succ, List.cons_append, List.nil_append, List.append_nil, Nat.sub_self, Nat.reduceSub, Nat.reduceAdd, List.getElem?_nil, Bool.and_true, Bool.true_and, Bool.false_and, Bool.and_false, Bool.or_true, Bool.true_or, Bool.or_false, Bool.false_or, if_true, Bool.false_eq_true, if_false, true_and, and_true, Bool.true_xor, Bool.false_xor, at0, at1, at2, at3, at4, Option.some.injEq, exists_eq_left', Bool.not_true, true_or, or_true, Bool.not_false, id_eq, imp_self, implies_true, lfAll, lf])
local macro_rules | `(tactic| walk_at "kw") => `(tactic| simp (config := { maxSteps := 4000000 }) only [kw_any_flag, kw_any_not, kw_any_and, kw_any_or, kw_any_do, kw_any_go, kw_any_set, kw_any_clear, kw_flag_any, kw_flag_not, kw_flag_and, kw_flag_or, kw_flag_do, kw_flag_go, kw_flag_set, kw_flag_clear, kw_not_any, kw_not_flag, kw_not_and, kw_not_or, kw_not_do, kw_not_go, kw_not_set, kw_not_clear, kw_and_any, kw_and_flag, kw_and_not, kw_and_or, kw_and_do, kw_and_go, kw_and_set, kw_and_clear, kw_or_any, kw_or_flag, kw_or_not, kw_or_and, kw_or_do, kw_or_go, kw_or_set, kw_or_clear, kw_do_any, kw_do_flag, kw_do_not, kw_do_and, kw_do_or, kw_do_go, kw_do_set, kw_do_clear, kw_go_any, kw_go_flag, kw_go_not, kw_go_and, kw_go_or, kw_go_do, kw_go_set, kw_go_clear, kw_set_any, kw_set_flag, kw_set_not, kw_set_and, kw_set_or, kw_set_do, kw_set_go, kw_set_clear, kw_clear_any, kw_clear_flag, kw_clear_not, kw_clear_and, kw_clear_or, kw_clear_do, kw_clear_go, kw_clear_set, eq_self, decide_false, decide_true, Bool.false_eq_true, if_false, if_true, Bool.not_true, Bool.not_false, List.any_cons, List.any_nil, Bool.or_false, Bool.false_or, Bool.or_true, Bool.true_or, Bool.false_xor, Bool.true_xor, eqvS])
local macro_rules | `(tactic| walk_at "dv") => `(tactic| simp (config := { maxSteps := 4000000 }) only [tdSeq, tdSet, tdAsg, tdPar, tdPar3, tdLc, tdItVar, tdIt, tdEnum, tdRg1, tdRg2, tdFor, tdRet, tdRetVar, tdRetN, tdNext, tdIf, tdIfS, tdAnd, tdOr, tdNot, tdAndV, tdOrV, tdNotV, tdB, tdBin, tdChain, tdVar, tdC, tdLst, tdNil, tdCons, tdStar, tdTup, tdNeg, tdSl, tdO0, tdO1, tdRev, tdCall, tdCallS, tdCB, tdIsi, tdAppend, tdExtendA, tdAsgPop, tdPop, tdAppNotPop, tdParPop, tdSetIx, tdAug, eqD, inD, ixD, isN, addD, subD, mulD, modD, fdivD, ltD, leD, gtD, geD, lenD, tupD, listD, DL.intD, reprD, absD, c1, startD, startS, List.map, List.replicate, List.length, wipeD, List.set, List.getElem?_cons_zero, List.getElem?_cons_succ, List.cons_append, List.nil_append, List.append_nil, Nat.sub_self, Nat.reduceSub, Nat.reduceAdd, List.getElem?_nil, Bool.and_true, Bool.true_and, Bool.false_and, Bool.and_false, Bool.or_true, Bool.true_or, Bool.or_false, Bool.false_or, if_true, Bool.false_eq_true, if_false, true_and, and_true, Bool.true_xor, Bool.false_xor, at0, at1, at2, at3, at4, Option.some.injEq, exists_eq_left', Bool.not_true, true_or, or_true, Bool.not_false, id_eq, imp_self, implies_true, lfAll, lf])
def tbLRead : TSd := tdIfS (tdB (tdBin (eqD false) (tdBin ixD (tdVar 8) (tdC (.int 0))) (tdC (.str "do")))) (tdSet 6 (tdBin ixD (tdVar 8) (tdC (.int 1)))) (tdIfS (tdB (tdBin (eqD false) (tdBin ixD (tdVar 8) (tdC (.int 0))) (tdC (.str "go")))) (tdSet 3 (tdBin ixD (tdVar 8) (tdC (.int 1)))) (tdIfS (tdB (tdBin (eqD false) (tdBin ixD (tdVar 8) (tdC (.int 0))) (tdC (.str "set")))) (tdAppend 7 (tdBin ixD (tdVar 8) (tdC (.int 1)))) (tdSet 7 (tdLc (tdItVar 7) (putD 13) (tdB (tdBin (eqD true) (tdVar 13) (tdBin ixD (tdVar 8) (tdC (.int 1))))) (tdVar 13) (([("flag", 13)] : List (Str × Nat)).map (·.2))))))
theorem lread_go {E : DEnds} {d0 d1 d2 d4 : D} {q : Addr} {fits : List D} : ∀ (ds : List Dd) (done : D) (m : Str) (fl : List Str) (p : Addr) (s8 : SD), fl.length + ds.length ≤ 500 →
    (∀ p s8 (fl' : List Str), fl'.length ≤ 500 → runD ds (done, m, fl) = ((runD ds (done, m, fl)).1, (runD ds (done, m, fl)).2.1, fl') → E.nx [.d d0, .d d1, .d d2, .d (dS (runD ds (done, m, fl)).2.1), .d d4, .own q fits, .d (runD ds (done, m, fl)).1, .own p (fl'.map dS), s8, .un, .un, .un, .un, .un]) →
    forGo (putD 8) tbLRead E (ds.map Dd.enc) [.d d0, .d d1, .d d2, .d (dS m), .d d4, .own q fits, .d done, .own p (fl.map dS), s8, .un, .un, .un, .un, .un]
  | [], done, m, fl, p, s8, hl, h => h p s8 fl (by simpa using hl) rfl
  | .run ts :: ds, done, m, fl, p, s8, hl, h => by
    rw [List.length_cons] at hl
    refine putD_lf (lf_encd _) ?_
    unfold tbLRead
    simp only [Dd.enc]
    walk_at "dv"
    walk_at "kw"
    refine putD_lf (lf_strs ts) ?_
    exact lread_go ds (dT (ts.map dS)) m fl _ _ (by omega) h
  | .go s :: ds, done, m, fl, p, s8, hl, h => by
    rw [List.length_cons] at hl
    refine putD_lf (lf_encd _) ?_
    unfold tbLRead
    simp only [Dd.enc]
    walk_at "dv"
    walk_at "kw"
    refine putD_lf rfl ?_
    exact lread_go ds done s fl _ _ (by omega) h
  | .set s :: ds, done, m, fl, p, s8, hl, h => by
    rw [List.length_cons] at hl
    refine putD_lf (lf_encd _) ?_
    unfold tbLRead
    simp only [Dd.enc]
    walk_at "dv"
    walk_at "kw"
    have e : fl.map dS ++ [dS s] = (fl ++ [s]).map dS := by simp
    rw [e]
    refine ⟨lt_line (by simp; omega), ?_⟩
    exact lread_go ds done m (fl ++ [s]) _ _ (by simp; omega) h
  | .clear s :: ds, done, m, fl, p, s8, hl, h => by
    rw [List.length_cons] at hl
    refine putD_lf (lf_encd _) ?_
    unfold tbLRead
    simp only [Dd.enc]
    walk_at "dv"
    walk_at "kw"
    refine lcGo_fmT dS (fun x => !decide (x = s)) dS true fl [] true _ (fun x hx K1 K2 h1 h2 => ?_) (le_line (by simp; omega)) fun a' ha => ?_
    · refine putD_lf rfl ?_
      walk_at "dv"
      cases hd : decide (x = s) with
      | true => exact ⟨rfl, h2 (by rw [hd]; rfl)⟩
      | false => exact ⟨rfl, h1 (by rw [hd]; rfl)⟩
    · rw [List.nil_append]
      refine putD_own (lf_strs _) fun p2 => ?_
      have hle := List.length_filter_le (fun x => !decide (x = s)) fl
      exact lread_go ds done m (fl.filter fun x => !decide (x = s)) _ _ (by omega) h
theorem sem_law_read : ∀ ds R, g_law_read ds R → t_law_read { nx := fun _ => R .none false, rt := R } (startD N_law_read ds) := by
  rintro _ R ⟨p, m, nm, fl, rs, rfl, hp, hz, hr, r⟩
  obtain ⟨hr1, hr2⟩ := ruleOf_mem hr hp
  have hnf := hp.nf
  have hpm := hp.n
  unfold t_law_read
  have ep : p.enc = dT [dS p.word, dS p.name, dT (p.starts.map dS), dT (p.flags.map dS), dT (p.modes.map Md.enc)] := rfl
  rw [ep]
  walk_at "dv"
  unfold ruleOf at hr
  obtain ⟨md, hmd, rfl⟩ := Option.map_eq_some_iff.mp hr
  obtain ⟨r0, hr0⟩ := find_filter hmd
  refine lcGo_fmT Md.enc (fun x => decide (x.name = m)) (fun x => dT (x.rules.map Rl.enc)) true p.modes [] true _ (fun x hx K1 K2 h1 h2 => ?_) (le_line (by simp; omega)) fun a' ha => ?_
  · refine gd3 rfl rfl (lf_rules _) ?_
    walk_at "dv"
    cases hd : decide (x.name = m) with
    | true => exact ⟨rfl, h1 hd⟩
    | false => exact ⟨rfl, h2 hd⟩
  obtain rfl := ha rfl
  rw [List.nil_append, hr0, List.map_cons]
  refine ⟨_, at0, ?_⟩
  refine putD_lf (lf_rules _) ?_
  walk_at "dv"
  refine lcGo_fmT Rl.enc (fun x => decide (x.on = nm) && x.c.hd fl) (fun x => dT (x.ds.map Dd.enc)) true md.rules [] true _ (fun x hx K1 K2 h1 h2 => ?_) (le_line (by simp; omega)) fun a' ha => ?_
  · refine gd3 rfl (lf_enc _) (lf_deeds _) ?_
    walk_at "dv"
    cases hd : decide (x.on = nm) with
    | true =>
      refine ⟨rfl, x.c, fl, rfl, by have := (hr2 x hx).c.2.1; omega, ?_⟩
      walk_at "dv"
      cases hh : x.c.hd fl with
      | true => exact h1 (by rw [hd, hh]; rfl)
      | false => exact h2 (by rw [hd, hh]; rfl)
    | false => exact ⟨rfl, h2 (by rw [hd]; rfl)⟩
  obtain rfl := ha rfl
  rw [List.nil_append]
  refine putD_own (lf_all.mpr fun z hz => by
    obtain ⟨x, _, rfl⟩ := List.mem_map.mp hz
    exact lf_deeds _) fun q => ?_
  walk_at "dv"
  refine ⟨le_line (by simp), min_nil _, ?_⟩
  rw [eqv_nil]
  unfold readF fitOf at r
  cases hf : md.rules.find? (fun x => decide (x.on = nm) && x.c.hd fl) with
  | none =>
    rw [hf] at r
    rw [find_none hf]
    exact r
  | some x =>
    rw [hf] at r
    have r : R (dT [(runD x.ds (dT [], m, fl)).1, dT [dS (runD x.ds (dT [], m, fl)).2.1, dT ((p.flags.filter fun f => decide (f ∈ (runD x.ds (dT [], m, fl)).2.2)).map dS)]]) false := r
    obtain ⟨r1, hr1'⟩ := find_filter hf
    have hxn := (hr2 x (List.mem_of_find?_eq_some hf)).n
    rw [hr1', List.map_cons]
    refine Eq.mpr (if_neg Bool.false_ne_true) ?_
    refine ⟨le_line (by simp), putD_lf rfl (putD_lf rfl (putD_own (lf_strs fl) fun p1 => ?_))⟩
    walk_at "dv"
    refine ⟨.inr (lf_deeds _), ?_⟩
    refine lread_go x.ds (dT []) m fl _ _ (by omega) fun p2 s8 fl' hl he => ?_
    have e : fl' = (runD x.ds (dT [], m, fl)).2.2 := (congrArg (fun x : D × Str × List Str => x.2.2) he).symm
    walk_at "dv"
    refine lcGo_fmT dS (fun x => decide (x ∈ fl')) dS true p.flags [] true _ (fun x hx K1 K2 h1 h2 => ?_) (le_line (by simp; omega)) fun a' ha => ?_
    · refine putD_lf rfl ⟨rfl, ?_⟩
      walk_at "dv"
      refine ⟨.inl ⟨rfl, flat_strs fl'⟩, ?_⟩
      rw [any_strs]
      cases hd : decide (x ∈ fl') with
      | true => exact h1 hd
      | false => exact h2 hd
    · rw [List.nil_append, e]
      exact ⟨le_line (by simp), le_line (by simp), r⟩
theorem len_law_read : ∀ ds R, g_law_read ds R → ds.length = p_law_read.length := by rintro _ R ⟨_, _, _, _, _, rfl, _⟩; rfl
end Lw

set_option Elab.async false
set_option linter.all false
set_option maxRecDepth 100000
set_option maxHeartbeats 4000000
namespace Lw
open PySem PySem.Spec PyProof.Rows L2 DL
local macro_rules | `(tactic| walk_at "dl") => `(tactic| simp (config := { maxSteps := 4000000 }) only [tdSeq, tdSet, tdAsg, tdPar, tdPar3, tdLc, tdItVar, tdIt, tdEnum, tdRg1, tdRg2, tdFor, tdRet, tdRetVar, tdRetN, tdNext, tdIf, tdIfS, tdAnd, tdOr, tdNot, tdAndV, tdOrV, tdNotV, tdB, tdBin, tdChain, tdVar, tdC, tdLst, tdNil, tdCons, tdStar, tdTup, tdNeg, tdSl, tdO0, tdO1, tdRev, tdCall, tdCallS, tdCB, tdIsi, tdAppend, tdExtendA, tdAsgPop, tdPop, tdAppNotPop, tdParPop, tdSetIx, tdAug, eqD, inD, ixD, isN, addD, subD, mulD, modD, fdivD, ltD, leD, gtD, geD, lenD, tupD, listD, DL.intD, reprD, absD, c1, startD, startS, putD, List.map, List.replicate, List.length, wipeD, List.set, List.getElem?_cons_zero, List.getElem?_cons_succ, List.cons_append, List.nil_append, List.append_nil, Nat.sub_self, Nat.reduceSub, Nat.reduceAdd, List.getElem?_nil, Bool.and_true, Bool.true_and, Bool.false_and, Bool.and_false, Bool.or_true, Bool.true_or, Bool.or_false, Bool.false_or, if_true, Bool.false_eq_true, if_false, true_and, and_true, Bool.true_xor, Bool.false_xor, at0, at1, at2, at3, at4, Option.some.injEq, exists_eq_left', Bool.not_true, true_or, or_true, Bool.not_false, id_eq, imp_self, implies_true, lfAll, lf])
local macro_rules | `(tactic| walk_at "kw") => `(tactic| simp (config := { maxSteps := 4000000 }) only [kw_any_flag, kw_any_not, kw_any_and, kw_any_or, kw_any_do, kw_any_go, kw_any_set, kw_any_clear, kw_flag_any, kw_flag_not, kw_flag_and, kw_flag_or, kw_flag_do, kw_flag_go, kw_flag_set, kw_flag_clear, kw_not_any, kw_not_flag, kw_not_and, kw_not_or, kw_not_do, kw_not_go, kw_not_set, kw_not_clear, kw_and_any, kw_and_flag, kw_and_not, kw_and_or, kw_and_do, kw_and_go, kw_and_set, kw_and_clear, kw_or_any, kw_or_flag, kw_or_not, kw_or_and, kw_or_do, kw_or_go, kw_or_set, kw_or_clear, kw_do_any, kw_do_flag, kw_do_not, kw_do_and, kw_do_or, kw_do_go, kw_do_set, kw_do_clear, kw_go_any, kw_go_flag, kw_go_not, kw_go_and, kw_go_or, kw_go_do, kw_go_set, kw_go_clear, kw_set_any, kw_set_flag, kw_set_not, kw_set_and, kw_set_or, kw_set_do, kw_set_go, kw_set_clear, kw_clear_any, kw_clear_flag, kw_clear_not, kw_clear_and, kw_clear_or, kw_clear_do, kw_clear_go, kw_clear_set, eq_self, decide_false, decide_true, Bool.false_eq_true, if_false, if_true, Bool.not_true, Bool.not_false, List.any_cons, List.any_nil, Bool.or_false, Bool.false_or, Bool.or_true, Bool.true_or, Bool.false_xor, Bool.true_xor, eqvS])
local macro_rules | `(tactic| walk_at "dv") => `(tactic| simp (config := { maxSteps := 4000000 }) only [tdSeq, tdSet, tdAsg, tdPar, tdPar3, tdLc, tdItVar, tdIt, tdEnum, tdRg1, tdRg2, tdFor, tdRet, tdRetVar, tdRetN, tdNext, tdIf, tdIfS, tdAnd, tdOr, tdNot, tdAndV, tdOrV, tdNotV, tdB, tdBin, tdChain, tdVar, tdC, tdLst, tdNil, tdCons, tdStar, tdTup, tdNeg, tdSl, tdO0, tdO1, tdRev, tdCall, tdCallS, tdCB, tdIsi, tdAppend, tdExtendA, tdAsgPop, tdPop, tdAppNotPop, tdParPop, tdSetIx, tdAug, eqD, inD, ixD, isN, addD, subD, mulD, modD, fdivD, ltD, leD, gtD, geD, lenD, tupD, listD, DL.intD, reprD, absD, c1, startD, startS, List.map, List.replicate, List.length, wipeD, List.set, List.getElem?_cons_zero, List.getElem?_cons_succ, List.cons_append, List.nil_append, List.append_nil, Nat.sub_self, Nat.reduceSub, Nat.reduceAdd, List.getElem?_nil, Bool.and_true, Bool.true_and, Bool.false_and, Bool.and_false, Bool.or_true, Bool.true_or, Bool.or_false, Bool.false_or, if_true, Bool.false_eq_true, if_false, true_and, and_true, Bool.true_xor, Bool.false_xor, at0, at1, at2, at3, at4, Option.some.injEq, exists_eq_left', Bool.not_true, true_or, or_true, Bool.not_false, id_eq, imp_self, implies_true, lfAll, lf])
theorem mul_bool (b : Bool) (xs : List D) : (List.replicate ((if b = true then (1 : Int) else 0)).toNat xs).flatten = if b = true then xs else [] := by
  cases b <;> simp
theorem mul_cond (b : Bool) (x : D) : (-(2 ^ 63) ≤ (if b = true then (1 : Int) else 0)) ∧ (if b = true then (1 : Int) else 0) < 2 ^ 63 ∧ 1 * ((if b = true then (1 : Int) else 0)).toNat ≤ sizeLine := by
  cases b
  · exact ⟨by decide, by decide, le_line (by decide)⟩
  · exact ⟨by decide, by decide, le_line (by decide)⟩
def tbRW1 : TSd := tdSet 5 (tdBin addD (tdVar 5) (tdBin mulD (tdLst (tdCons (tdTup (tdCons (tdBin addD (tdVar 6) (tdTup (tdCons (tdC (.int 1)) tdNil))) (tdCons (tdC (.str "flag")) tdNil))) tdNil)) (tdCB (tdCons (tdAndV (tdBin (eqD false) (tdBin ixD (tdVar 7) (tdC (.int 0))) (tdC (.str "flag"))) (tdBin (inD true) (tdBin ixD (tdVar 7) (tdC (.int 1))) (tdBin ixD (tdVar 2) (tdC (.int 3))))) tdNil) (c1 intD))))
def condL (fl : List Str) (l : List (List D × Cd)) : List D := (l.filter fun x => badF fl x.2).map fun x => fault (x.1 ++ [dI 1]) "flag"
theorem condL_cons (fl : List Str) (x : List D × Cd) (l : List (List D × Cd)) : condL fl (x :: l) = (if badF fl x.2 = true then [fault (x.1 ++ [dI 1]) "flag"] else []) ++ condL fl l := by
  unfold condL
  rw [List.filter_cons]
  split <;> simp
theorem rw1_go {E : DEnds} {names acts : List Str} {p : Pg} {d3 d4 : D} : ∀ (l : List (List D × Cd)) (found : List D) (q : Addr) (s6 s7 : SD), found.length + l.length ≤ 1000 → lfAll found = true → (∀ x ∈ l, lfAll x.1 = true ∧ x.1.length ≤ 1000) →
    (∀ q s6 s7, lfAll (found ++ condL p.flags l) = true → (found ++ condL p.flags l).length ≤ found.length + l.length → E.nx [.d (dT (names.map dS)), .d (dT (acts.map dS)), .d p.enc, .d d3, .d d4, .own q (found ++ condL p.flags l), s6, s7, .un, .un, .un, .un, .un, .un]) →
    forGo (gdTup 2 (gdCons (putD 6) (gdCons (putD 7) gdNil))) tbRW1 E (l.map encP) [.d (dT (names.map dS)), .d (dT (acts.map dS)), .d p.enc, .d d3, .d d4, .own q found, s6, s7, .un, .un, .un, .un, .un, .un]
  | [], found, q, s6, s7, hl, hf, hx, h => by
    have := h q s6 s7 (by simpa [condL] using hf) (by simp [condL])
    show E.nx _
    simpa [condL] using this
  | (a, c) :: l, found, q, s6, s7, hl, hf, hx, h => by
    rw [List.length_cons] at hl
    obtain ⟨ha, hal⟩ := hx (a, c) (by simp)
    have ha : lfAll a = true := ha
    have hal : a.length ≤ 1000 := hal
    have hl1 : lf (fault (a ++ [dI 1]) "flag") = true := lf_fault (by simp [lf_append, ha, lfAll, lf])
    have step : ∀ b : Bool, b = badF p.flags c → ∀ s6 s7, ∀ q, forGo (gdTup 2 (gdCons (putD 6) (gdCons (putD 7) gdNil))) tbRW1 E (l.map encP) [.d (dT (names.map dS)), .d (dT (acts.map dS)), .d p.enc, .d d3, .d d4, .own q (found ++ if b = true then [fault (a ++ [dI 1]) "flag"] else []), s6, s7, .un, .un, .un, .un, .un, .un] := fun b hb s6 s7 q => by
      refine rw1_go l _ q s6 s7 ?_ ?_ (fun x hx2 => hx x (List.mem_cons_of_mem _ hx2)) fun q s6 s7 h1 h2 => ?_
      · rw [List.length_append]; split <;> simp <;> omega
      · rw [lf_append, hf]; split <;> simp [lfAll, hl1]
      · rw [List.append_assoc, hb, ← condL_cons p.flags (a, c) l] at h1 h2 ⊢
        refine h q s6 s7 h1 (Nat.le_trans h2 ?_)
        rw [List.length_append]; split <;> simp <;> omega
    have lfb : ∀ b : Bool, lfAll (found ++ if b = true then [fault (a ++ [dI 1]) "flag"] else []) = true := fun b => by
      rw [lf_append, hf]; split <;> simp [lfAll, hl1]
    have lnb : ∀ b : Bool, found.length + (if b = true then [fault (a ++ [dI 1]) "flag"] else []).length ≤ sizeLine := fun b => le_line (by split <;> simp <;> omega)
    show gdTup 2 (gdCons (putD 6) (gdCons (putD 7) gdNil)) (.tuple [dT a, c.enc]) true false _ _
    refine gd2 (show lf (dT a) = true from ha) (lf_enc c) ?_
    unfold tbRW1
    have ep : p.enc = dT [dS p.word, dS p.name, dT (p.starts.map dS), dT (p.flags.map dS), dT (p.modes.map Md.enc)] := rfl
    rw [ep]
    cases c with
    | flag s =>
      simp only [Cd.enc]
      walk_at "dv"
      walk_at "kw"
      refine ⟨le_line (by simp), le_line (by simp; omega), le_line (by simp), le_line (by simp), ⟨rfl, flat_strs _⟩, ?_⟩
      rw [any_strs]
      obtain ⟨c1, c2, c3⟩ := mul_cond (!decide (s ∈ p.flags)) (.none)
      refine ⟨c1, c2, c3, ?_⟩
      rw [mul_bool]
      exact ⟨lnb _, putD_own (lfb _) fun q => step _ rfl _ _ q⟩
    | _ =>
      simp only [Cd.enc]
      walk_at "dv"
      walk_at "kw"
      refine ⟨le_line (by simp), le_line (by simp; omega), le_line (by simp), le_line (by simp), by decide, by decide, le_line (by decide), ?_⟩
      exact ⟨lnb false, putD_own (lfb false) fun q => step false rfl _ _ q⟩
def U.txt : U → Str
  | .run => "do"
  | .go => "go"
  | .flag s => "flag " ++ s
theorem flag_cps (s : Str) : (("flag " : Str) ++ s).cps.toList = [102, 108, 97, 103, 32] ++ s.cps.toList := by
  rw [cps_append, show (("flag " : Str)).cps.toList = [102, 108, 97, 103, 32] by decide]
theorem txt_inj {a b : U} (h : a.txt = b.txt) : a = b := by
  have h2 : a.txt.cps.toList = b.txt.cps.toList := by rw [h]
  cases a with
  | run => cases b with
    | run => rfl
    | go => exact absurd h (by decide)
    | flag s =>
      simp only [U.txt] at h2
      rw [flag_cps, show (("do" : Str)).cps.toList = [100, 111] by decide] at h2
      simp at h2
  | go => cases b with
    | run => exact absurd h (by decide)
    | go => rfl
    | flag s =>
      simp only [U.txt] at h2
      rw [flag_cps, show (("go" : Str)).cps.toList = [103, 111] by decide] at h2
      simp at h2
  | flag s => cases b with
    | run =>
      simp only [U.txt] at h2
      rw [flag_cps, show (("do" : Str)).cps.toList = [100, 111] by decide] at h2
      simp at h2
    | go =>
      simp only [U.txt] at h2
      rw [flag_cps, show (("go" : Str)).cps.toList = [103, 111] by decide] at h2
      simp at h2
    | flag t =>
      simp only [U.txt] at h2
      rw [flag_cps, flag_cps] at h2
      have h3 : s.cps.toList = t.cps.toList := by simpa using h2
      have : s = t := by rw [← str_eta s, ← str_eta t, h3]
      rw [this]
theorem any_txt (met : List U) (u : U) : ((met.map U.txt).map dS).any (fun z => PyData.eqv z (.str u.txt)) = decide (u ∈ met) := by
  rw [any_strs]
  congr 1
  rw [List.mem_map]
  exact propext ⟨fun ⟨x, hx, e⟩ => by rw [← txt_inj e]; exact hx, fun h => ⟨u, h, rfl⟩⟩
def deedsL (acts fl md : List Str) (pl : List D) : Nat → List U → List Dd → List D
  | _, _, [] => []
  | k, met, d :: ds => (deedF acts fl md d (pl ++ [dI 2, dI k])).toList ++ (if d.u ∈ met then [fault (pl ++ [dI 2, dI k]) "deeds"] else []) ++ deedsL acts fl md pl (k + 1) (met ++ [d.u]) ds
theorem deeds_head (acts fl md : List Str) (pl : List D) : ∀ (ds : List Dd) (k : Nat) (met : List U), (deedsL acts fl md pl k met ds).head? = deedsGo acts fl md (pl ++ [dI 2]) k met ds
  | [], _, _ => rfl
  | d :: ds, k, met => by
    have e : pl ++ [dI 2] ++ [dI (k : Nat)] = pl ++ [dI 2, dI k] := by simp
    unfold deedsL deedsGo
    rw [e]
    cases deedF acts fl md d (pl ++ [dI 2, dI k]) with
    | some f => rfl
    | none =>
      rw [Option.toList_none, List.nil_append]
      by_cases h : d.u ∈ met
      · simp [h]
      · simp only [h, if_false, List.nil_append]
        exact deeds_head acts fl md pl ds (k + 1) _
def tbRWa : TSd := tdIfS (tdB (tdBin (eqD false) (tdBin ixD (tdVar 10) (tdC (.int 0))) (tdC (.str "do")))) (tdSet 5 (tdBin addD (tdVar 5) (tdCall (tdCons (tdVar 1) (tdCons (tdBin ixD (tdVar 10) (tdC (.int 1))) (tdCons (tdBin addD (tdVar 6) (tdTup (tdCons (tdC (.int 1)) tdNil))) tdNil))) g_law_acts_wrong))) (tdIfS (tdB (tdBin (eqD false) (tdBin ixD (tdVar 10) (tdC (.int 0))) (tdC (.str "go")))) (tdSeq (tdSet 11 (tdLc (tdIt (tdBin ixD (tdVar 2) (tdC (.int 4)))) (putD 13) (fun _ R => R true) (tdBin ixD (tdVar 13) (tdC (.int 0))) (([("mode", 13)] : List (Str × Nat)).map (·.2))))
    (tdSet 5 (tdBin addD (tdVar 5) (tdBin mulD (tdLst (tdCons (tdTup (tdCons (tdBin addD (tdVar 6) (tdTup (tdCons (tdC (.int 1)) tdNil))) (tdCons (tdC (.str "mode")) tdNil))) tdNil)) (tdCB (tdCons (tdBin (inD true) (tdBin ixD (tdVar 10) (tdC (.int 1))) (tdVar 11)) tdNil) (c1 intD)))))) (tdSet 5 (tdBin addD (tdVar 5) (tdBin mulD (tdLst (tdCons (tdTup (tdCons (tdBin addD (tdVar 6) (tdTup (tdCons (tdC (.int 1)) tdNil))) (tdCons (tdC (.str "flag")) tdNil))) tdNil)) (tdCB (tdCons (tdBin (inD true) (tdBin ixD (tdVar 10) (tdC (.int 1))) (tdBin ixD (tdVar 2) (tdC (.int 3)))) tdNil) (c1 intD))))))
theorem rwa {E : DEnds} {names acts : List Str} {p : Pg} {d3 d4 : D} {q r : Addr} {found ahead here : List D} {s7 s9 s11 s12 : SD} {d : Dd} (hd : d.ok) (hp : p.modes.length ≤ 100) (hh : lfAll here = true) (hhl : here.length ≤ 90) (hf : lfAll found = true) (hfl : found.length ≤ 1000)
    (h : ∀ q s11, E.nx [.d (dT (names.map dS)), .d (dT (acts.map dS)), .d p.enc, .d d3, .d d4, .own q (found ++ (deedF acts p.flags (p.modes.map (·.name)) d here).toList), .d (dT here), s7, .own r ahead, s9, .d d.enc, s11, s12, .un]) :
    tbRWa E [.d (dT (names.map dS)), .d (dT (acts.map dS)), .d p.enc, .d d3, .d d4, .own q found, .d (dT here), s7, .own r ahead, s9, .d d.enc, s11, s12, .un] := by
  have h1 : lfAll (here ++ [dI 1]) = true := by simp [lf_append, hh, lfAll, lf]
  have l1 : ∀ w : Str, lf (fault (here ++ [dI 1]) w) = true := fun w => lf_fault h1
  have lfb : ∀ (w : Str) (b : Bool), lfAll (found ++ if b = true then [fault (here ++ [dI 1]) w] else []) = true := fun w b => by
    rw [lf_append, hf]; split <;> simp [lfAll, l1]
  have lnb : ∀ (w : Str) (b : Bool), found.length + (if b = true then [fault (here ++ [dI 1]) w] else []).length ≤ sizeLine := fun w b => le_line (by split <;> simp <;> omega)
  have ep : p.enc = dT [dS p.word, dS p.name, dT (p.starts.map dS), dT (p.flags.map dS), dT (p.modes.map Md.enc)] := rfl
  unfold tbRWa
  cases d with
  | run ts =>
    simp only [Dd.enc]
    walk_at "dv"
    walk_at "kw"
    refine ⟨le_line (by simp), le_line (by omega), acts, ts, here ++ [dI 1], rfl, hd.2, h1, by have := hd.1; omega, by simp; omega, ?_⟩
    have hl2 : (actF acts ts (here ++ [dI 1])).toList.length ≤ 1 := by cases actF acts ts (here ++ [dI 1]) <;> simp
    refine ⟨le_line (by omega), putD_own ?_ fun q => h q _⟩
    rw [lf_append, hf]
    cases hq : actF acts ts (here ++ [dI 1]) with
    | none => rfl
    | some f => simp [lfAll, lf_actF h1 f hq]
  | go s =>
    rw [ep]
    simp only [Dd.enc]
    walk_at "dv"
    walk_at "kw"
    refine lcGo_mapT Md.enc (fun m => dS m.name) true p.modes _ (fun m hm K h1 => ?_) (le_line (by omega)) fun a' ha => ?_
    · refine putD_lf (lf_encM m) ⟨rfl, ?_⟩
      simp only [Md.enc]
      walk_at "dv"
      exact h1
    · obtain rfl := ha rfl
      have ec : p.modes.map (fun m => dS m.name) = (p.modes.map (·.name)).map dS := by rw [List.map_map]; rfl
      rw [ec]
      refine putD_own (lf_strs _) fun q2 => ?_
      walk_at "dv"
      refine ⟨le_line (by simp), le_line (by omega), le_line (by simp), le_line (by simp), .inl ⟨rfl, flat_strs _⟩, ?_⟩
      rw [any_strs]
      obtain ⟨c1, c2, c3⟩ := mul_cond (!decide (s ∈ p.modes.map (·.name))) (.none)
      refine ⟨c1, c2, c3, ?_⟩
      rw [mul_bool]
      refine ⟨lnb "mode" _, putD_own (lfb "mode" _) fun q => ?_⟩
      have := h q (.own q2 ((p.modes.map (·.name)).map dS))
      dsimp only [deedF] at this
      by_cases hs : s ∈ p.modes.map (·.name)
      · rw [if_pos hs] at this
        rw [decide_eq_true hs]
        exact this
      · rw [if_neg hs] at this
        rw [decide_eq_false hs]
        exact this
  | set s =>
    rw [ep]
    simp only [Dd.enc]
    walk_at "dv"
    walk_at "kw"
    refine ⟨le_line (by simp), le_line (by omega), le_line (by simp), le_line (by simp), ⟨rfl, flat_strs _⟩, ?_⟩
    rw [any_strs]
    obtain ⟨c1, c2, c3⟩ := mul_cond (!decide (s ∈ p.flags)) (.none)
    refine ⟨c1, c2, c3, ?_⟩
    rw [mul_bool]
    refine ⟨lnb "flag" _, putD_own (lfb "flag" _) fun q => ?_⟩
    have := h q s11
    dsimp only [deedF] at this
    by_cases hs : s ∈ p.flags
    · rw [if_pos hs] at this
      rw [decide_eq_true hs]
      exact this
    · rw [if_neg hs] at this
      rw [decide_eq_false hs]
      exact this
  | clear s =>
    rw [ep]
    simp only [Dd.enc]
    walk_at "dv"
    walk_at "kw"
    refine ⟨le_line (by simp), le_line (by omega), le_line (by simp), le_line (by simp), ⟨rfl, flat_strs _⟩, ?_⟩
    rw [any_strs]
    obtain ⟨c1, c2, c3⟩ := mul_cond (!decide (s ∈ p.flags)) (.none)
    refine ⟨c1, c2, c3, ?_⟩
    rw [mul_bool]
    refine ⟨lnb "flag" _, putD_own (lfb "flag" _) fun q => ?_⟩
    have := h q s11
    dsimp only [deedF] at this
    by_cases hs : s ∈ p.flags
    · rw [if_pos hs] at this
      rw [decide_eq_true hs]
      exact this
    · rw [if_neg hs] at this
      rw [decide_eq_false hs]
      exact this
end Lw

set_option Elab.async false
set_option linter.all false
set_option maxRecDepth 100000
set_option maxHeartbeats 4000000
namespace Lw
open PySem PySem.Spec PyProof.Rows L2 DL
local macro_rules | `(tactic| walk_at "dl") => `(tactic| simp (config := { maxSteps := 4000000 }) only [tdSeq, tdSet, tdAsg, tdPar, tdPar3, tdLc, tdItVar, tdIt, tdEnum, tdRg1, tdRg2, tdFor, tdRet, tdRetVar, tdRetN, tdNext, tdIf, tdIfS, tdAnd, tdOr, tdNot, tdAndV, tdOrV, tdNotV, tdB, tdBin, tdChain, tdVar, tdC, tdLst, tdNil, tdCons, tdStar, tdTup, tdNeg, tdSl, tdO0, tdO1, tdRev, tdCall, tdCallS, tdCB, tdIsi, tdAppend, tdExtendA, tdAsgPop, tdPop, tdAppNotPop, tdParPop, tdSetIx, tdAug, eqD, inD, ixD, isN, addD, subD, mulD, modD, fdivD, ltD, leD, gtD, geD, lenD, tupD, listD, DL.intD, reprD, absD, c1, startD, startS, putD, List.map, List.replicate, List.length, wipeD, List.set, List.getElem?_cons_zero, List.getElem?_cons_succ, List.cons_append, List.nil_append, List.append_nil, Nat.sub_self, Nat.reduceSub, Nat.reduceAdd, List.getElem?_nil, Bool.and_true, Bool.true_and, Bool.false_and, Bool.and_false, Bool.or_true, Bool.true_or, Bool.or_false, Bool.false_or, if_true, Bool.false_eq_true, if_false, true_and, and_true, Bool.true_xor, Bool.false_xor, at0, at1, at2, at3, at4, Option.some.injEq, exists_eq_left', Bool.not_true, true_or, or_true, Bool.not_false, id_eq, imp_self, implies_true, lfAll, lf])
local macro_rules | `(tactic| walk_at "kw") => `(tactic| simp (config := { maxSteps := 4000000 }) only [kw_any_flag, kw_any_not, kw_any_and, kw_any_or, kw_any_do, kw_any_go, kw_any_set, kw_any_clear, kw_flag_any, kw_flag_not, kw_flag_and, kw_flag_or, kw_flag_do, kw_flag_go, kw_flag_set, kw_flag_clear, kw_not_any, kw_not_flag, kw_not_and, kw_not_or, kw_not_do, kw_not_go, kw_not_set, kw_not_clear, kw_and_any, kw_and_flag, kw_and_not, kw_and_or, kw_and_do, kw_and_go, kw_and_set, kw_and_clear, kw_or_any, kw_or_flag, kw_or_not, kw_or_and, kw_or_do, kw_or_go, kw_or_set, kw_or_clear, kw_do_any, kw_do_flag, kw_do_not, kw_do_and, kw_do_or, kw_do_go, kw_do_set, kw_do_clear, kw_go_any, kw_go_flag, kw_go_not, kw_go_and, kw_go_or, kw_go_do, kw_go_set, kw_go_clear, kw_set_any, kw_set_flag, kw_set_not, kw_set_and, kw_set_or, kw_set_do, kw_set_go, kw_set_clear, kw_clear_any, kw_clear_flag, kw_clear_not, kw_clear_and, kw_clear_or, kw_clear_do, kw_clear_go, kw_clear_set, eq_self, decide_false, decide_true, Bool.false_eq_true, if_false, if_true, Bool.not_true, Bool.not_false, List.any_cons, List.any_nil, Bool.or_false, Bool.false_or, Bool.or_true, Bool.true_or, Bool.false_xor, Bool.true_xor, eqvS])
local macro_rules | `(tactic| walk_at "dv") => `(tactic| simp (config := { maxSteps := 4000000 }) only [tdSeq, tdSet, tdAsg, tdPar, tdPar3, tdLc, tdItVar, tdIt, tdEnum, tdRg1, tdRg2, tdFor, tdRet, tdRetVar, tdRetN, tdNext, tdIf, tdIfS, tdAnd, tdOr, tdNot, tdAndV, tdOrV, tdNotV, tdB, tdBin, tdChain, tdVar, tdC, tdLst, tdNil, tdCons, tdStar, tdTup, tdNeg, tdSl, tdO0, tdO1, tdRev, tdCall, tdCallS, tdCB, tdIsi, tdAppend, tdExtendA, tdAsgPop, tdPop, tdAppNotPop, tdParPop, tdSetIx, tdAug, eqD, inD, ixD, isN, addD, subD, mulD, modD, fdivD, ltD, leD, gtD, geD, lenD, tupD, listD, DL.intD, reprD, absD, c1, startD, startS, List.map, List.replicate, List.length, wipeD, List.set, List.getElem?_cons_zero, List.getElem?_cons_succ, List.cons_append, List.nil_append, List.append_nil, Nat.sub_self, Nat.reduceSub, Nat.reduceAdd, List.getElem?_nil, Bool.and_true, Bool.true_and, Bool.false_and, Bool.and_false, Bool.or_true, Bool.true_or, Bool.or_false, Bool.false_or, if_true, Bool.false_eq_true, if_false, true_and, and_true, Bool.true_xor, Bool.false_xor, at0, at1, at2, at3, at4, Option.some.injEq, exists_eq_left', Bool.not_true, true_or, or_true, Bool.not_false, id_eq, imp_self, implies_true, lfAll, lf])
def tbRWc : TSd := (tdSeq tbRWa
    (tdSeq (tdSet 12 (tdIf (tdB (tdBin (inD false) (tdBin ixD (tdVar 10) (tdC (.int 0))) (tdTup (tdCons (tdC (.str "do")) (tdCons (tdC (.str "go")) tdNil))))) (tdBin ixD (tdVar 10) (tdC (.int 0))) (tdBin addD (tdC (.str "flag ")) (tdBin ixD (tdVar 10) (tdC (.int 1))))))
    (tdSeq (tdSet 5 (tdBin addD (tdVar 5) (tdBin mulD (tdLst (tdCons (tdTup (tdCons (tdVar 6) (tdCons (tdC (.str "deeds")) tdNil))) tdNil)) (tdCB (tdCons (tdBin (inD false) (tdVar 12) (tdVar 8)) tdNil) (c1 intD)))))
    (tdAppend 8 (tdVar 12)))))
def tbRW2 : TSd := tdSeq (tdSet 6 (tdBin addD (tdVar 4) (tdTup (tdCons (tdC (.int 2)) (tdCons (tdVar 9) tdNil))))) tbRWc
theorem deedF_len (acts fl md : List Str) (d : Dd) (pl : List D) : (deedF acts fl md d pl).toList.length ≤ 1 := by cases deedF acts fl md d pl <;> simp
theorem lf_toList {o : Option D} (h : ∀ d, o = some d → lf d = true) : lfAll o.toList = true := by
  cases o with
  | none => rfl
  | some d => simp [lfAll, h d rfl]
theorem rwb {E : DEnds} {names acts : List Str} {p : Pg} {d3 d4 : D} {q r : Addr} {found here : List D} {met : List U} {s7 s9 s11 s12 : SD} {d : Dd} (hd : d.ok) (hh : lfAll here = true) (hhl : here.length ≤ 90) (hf : lfAll found = true) (hfl : found.length ≤ 1000) (hm : met.length ≤ 100)
    (h : ∀ q s12, E.nx [.d (dT (names.map dS)), .d (dT (acts.map dS)), .d p.enc, .d d3, .d d4, .own q (found ++ if d.u ∈ met then [fault here "deeds"] else []), .d (dT here), s7, .own r (((met ++ [d.u]).map U.txt).map dS), s9, .d d.enc, s11, s12, .un]) :
    (tdSeq (tdSet 12 (tdIf (tdB (tdBin (inD false) (tdBin ixD (tdVar 10) (tdC (.int 0))) (tdTup (tdCons (tdC (.str "do")) (tdCons (tdC (.str "go")) tdNil))))) (tdBin ixD (tdVar 10) (tdC (.int 0))) (tdBin addD (tdC (.str "flag ")) (tdBin ixD (tdVar 10) (tdC (.int 1))))))
    (tdSeq (tdSet 5 (tdBin addD (tdVar 5) (tdBin mulD (tdLst (tdCons (tdTup (tdCons (tdVar 6) (tdCons (tdC (.str "deeds")) tdNil))) tdNil)) (tdCB (tdCons (tdBin (inD false) (tdVar 12) (tdVar 8)) tdNil) (c1 intD)))))
    (tdAppend 8 (tdVar 12)))) E [.d (dT (names.map dS)), .d (dT (acts.map dS)), .d p.enc, .d d3, .d d4, .own q found, .d (dT here), s7, .own r ((met.map U.txt).map dS), s9, .d d.enc, s11, s12, .un] := by
  have fin : ∀ s12, s12 = SD.d (dS d.u.txt) → (tdSeq (tdSet 5 (tdBin addD (tdVar 5) (tdBin mulD (tdLst (tdCons (tdTup (tdCons (tdVar 6) (tdCons (tdC (.str "deeds")) tdNil))) tdNil)) (tdCB (tdCons (tdBin (inD false) (tdVar 12) (tdVar 8)) tdNil) (c1 intD)))))
    (tdAppend 8 (tdVar 12))) E [.d (dT (names.map dS)), .d (dT (acts.map dS)), .d p.enc, .d d3, .d d4, .own q found, .d (dT here), s7, .own r ((met.map U.txt).map dS), s9, .d d.enc, s11, s12, .un] := fun s12 e => by
    subst e
    walk_at "dv"
    refine ⟨le_line (by simp), le_line (by simp), .inl ⟨rfl, flat_strs _⟩, ?_⟩
    rw [any_txt]
    obtain ⟨c1, c2, c3⟩ := mul_cond (decide (d.u ∈ met)) (.none)
    refine ⟨c1, c2, c3, ?_⟩
    rw [mul_bool]
    have e2 : (if decide (d.u ∈ met) = true then [PyData.tuple [dT here, PyData.str "deeds"]] else []) = if d.u ∈ met then [fault here "deeds"] else [] := by
      by_cases hq : d.u ∈ met <;> simp [hq, fault]
    rw [e2]
    refine ⟨le_line (by split <;> simp <;> omega), putD_own ?_ fun q => ?_⟩
    · rw [lf_append, hf]; split <;> simp [lfAll, lf_fault hh]
    · walk_at "dv"
      refine ⟨lt_line (by simp; omega), ?_⟩
      have := h q (.d (dS d.u.txt))
      rw [List.map_append, List.map_append] at this
      exact this
  generalize (tdSeq (tdSet 5 (tdBin addD (tdVar 5) (tdBin mulD (tdLst (tdCons (tdTup (tdCons (tdVar 6) (tdCons (tdC (.str "deeds")) tdNil))) tdNil)) (tdCB (tdCons (tdBin (inD false) (tdVar 12) (tdVar 8)) tdNil) (c1 intD)))))
    (tdAppend 8 (tdVar 12))) = B at fin ⊢
  cases d with
  | run ts =>
    simp only [Dd.enc] at fin ⊢
    walk_at "dv"
    walk_at "kw"
    exact ⟨le_line (by simp), ⟨rfl, rfl⟩, putD_lf rfl (fin _ rfl)⟩
  | go s =>
    simp only [Dd.enc] at fin ⊢
    walk_at "dv"
    walk_at "kw"
    exact ⟨le_line (by simp), ⟨rfl, rfl⟩, putD_lf rfl (fin _ rfl)⟩
  | set s =>
    simp only [Dd.enc] at fin ⊢
    walk_at "dv"
    walk_at "kw"
    exact ⟨le_line (by simp), ⟨rfl, rfl⟩, le_line (by rw [len_cps "flag "]; have := hd; have h5 : (("flag " : Str)).cps.toList.length = 5 := by decide
                                                      rw [h5]; have : s.length ≤ 12 := hd; omega), putD_lf rfl (fin _ rfl)⟩
  | clear s =>
    simp only [Dd.enc] at fin ⊢
    walk_at "dv"
    walk_at "kw"
    exact ⟨le_line (by simp), ⟨rfl, rfl⟩, le_line (by rw [len_cps "flag "]; have := hd; have h5 : (("flag " : Str)).cps.toList.length = 5 := by decide
                                                      rw [h5]; have : s.length ≤ 12 := hd; omega), putD_lf rfl (fin _ rfl)⟩
theorem rw2_step {E2 : DEnds} {names acts : List Str} {p : Pg} {d3 : D} {pl : List D} {r : Addr} {k : Nat} {met : List U} {found : List D} {q : Addr} {s6 s7 s11 s12 : SD} {d : Dd} (hp : p.modes.length ≤ 100) (hh : lfAll pl = true) (hhl : pl.length ≤ 80) (hd : d.ok) (hf : lfAll found = true) (hfl : found.length ≤ 998) (hml : met.length ≤ 100)
    (hE : ∀ q s6 s11 s12, E2.nx [.d (dT (names.map dS)), .d (dT (acts.map dS)), .d p.enc, .d d3, .d (dT pl), .own q (found ++ (deedF acts p.flags (p.modes.map (·.name)) d (pl ++ [dI 2, dI k])).toList ++ if d.u ∈ met then [fault (pl ++ [dI 2, dI k]) "deeds"] else []), s6, s7, .own r (((met ++ [d.u]).map U.txt).map dS), .d (.int (k : Nat)), .d d.enc, s11, s12, .un]) :
    tbRW2 E2 [.d (dT (names.map dS)), .d (dT (acts.map dS)), .d p.enc, .d d3, .d (dT pl), .own q found, s6, s7, .own r ((met.map U.txt).map dS), .d (.int (k : Nat)), .d d.enc, s11, s12, .un] := by
  have hdl := deedF_len acts p.flags (p.modes.map (·.name)) d (pl ++ [dI 2, dI k])
  have hpk : lfAll (pl ++ [dI 2, dI (k : Nat)]) = true := by simp [lf_append, hh, lfAll, lf]
  have hlf2 : lfAll (deedF acts p.flags (p.modes.map (·.name)) d (pl ++ [dI 2, dI k])).toList = true := lf_toList (lf_deedF hpk)
  have cont : ∀ s6, s6 = SD.d (dT (pl ++ [dI 2, dI k])) → tbRWc E2 [.d (dT (names.map dS)), .d (dT (acts.map dS)), .d p.enc, .d d3, .d (dT pl), .own q found, s6, s7, .own r ((met.map U.txt).map dS), .d (.int (k : Nat)), .d d.enc, s11, s12, .un] := fun s6 e => by
    subst e
    refine rwa hd hp hpk (by simp; omega) hf (by omega) fun q s11 => ?_
    exact rwb hd hpk (by simp; omega) (by rw [lf_append, hf, hlf2]; rfl) (by rw [List.length_append]; omega) (by omega) fun q s12 => hE q _ s11 s12
  unfold tbRW2
  generalize tbRWc = B at cont ⊢
  walk_at "dv"
  exact ⟨le_line (by simp), le_line (by simp; omega), putD_lf hpk (cont _ rfl)⟩
theorem rw2_go {E : DEnds} {names acts : List Str} {p : Pg} {d3 : D} {pl : List D} {r : Addr} (hp : p.modes.length ≤ 100) (hh : lfAll pl = true) (hhl : pl.length ≤ 80) : ∀ (ds : List Dd) (k : Nat) (met : List U) (found : List D) (q : Addr) (s6 s7 s9 s10 s11 s12 : SD), (∀ d ∈ ds, d.ok) → lfAll found = true → found.length + 2 * ds.length ≤ 1000 → met.length + ds.length ≤ 100 →
    (∀ q r s6 s7 s8 s9 s10 s11 s12, E.nx [.d (dT (names.map dS)), .d (dT (acts.map dS)), .d p.enc, .d d3, .d (dT pl), .own q (found ++ deedsL acts p.flags (p.modes.map (·.name)) pl k met ds), s6, s7, .own r s8, s9, s10, s11, s12, .un]) →
    forGo (gdTup 2 (gdCons (putD 9) (gdCons (putD 10) gdNil))) tbRW2 E ((enT k ds).map fun x => .tuple [.int (x.1 : Nat), x.2.enc]) [.d (dT (names.map dS)), .d (dT (acts.map dS)), .d p.enc, .d d3, .d (dT pl), .own q found, s6, s7, .own r ((met.map U.txt).map dS), s9, s10, s11, s12, .un]
  | [], k, met, found, q, s6, s7, s9, s10, s11, s12, _, _, _, _, h => by
    have := h q r s6 s7 ((met.map U.txt).map dS) s9 s10 s11 s12
    show E.nx _
    simpa [deedsL] using this
  | d :: ds, k, met, found, q, s6, s7, s9, s10, s11, s12, hd, hf, hfl, hml, h => by
    rw [List.length_cons] at hfl hml
    have hdl := deedF_len acts p.flags (p.modes.map (·.name)) d (pl ++ [dI 2, dI k])
    have hpk : lfAll (pl ++ [dI 2, dI (k : Nat)]) = true := by simp [lf_append, hh, lfAll, lf]
    have hlf2 : lfAll (deedF acts p.flags (p.modes.map (·.name)) d (pl ++ [dI 2, dI k])).toList = true := lf_toList (lf_deedF hpk)
    show gdTup 2 (gdCons (putD 9) (gdCons (putD 10) gdNil)) (.tuple [.int (k : Nat), d.enc]) true false _ _
    refine gd2 rfl (lf_encd d) ?_
    refine rw2_step hp hh hhl (hd d (by simp)) hf (by omega) (by omega) fun q s6 s11 s12 => ?_
    refine rw2_go hp hh hhl ds (k + 1) (met ++ [d.u]) _ q _ _ _ _ _ _ (fun x hx => hd x (List.mem_cons_of_mem _ hx)) ?_ ?_ (by rw [List.length_append, List.length_singleton]; omega) fun q r s6 s7 s8 s9 s10 s11 s12 => ?_
    · rw [lf_append, lf_append, hf, hlf2]; split <;> simp [lfAll, lf_fault hpk]
    · rw [List.length_append, List.length_append]; split <;> simp <;> omega
    · have := h q r s6 s7 s8 s9 s10 s11 s12
      unfold deedsL at this
      simpa [List.append_assoc] using this
end Lw

set_option Elab.async false
set_option linter.all false
set_option maxRecDepth 100000
set_option maxHeartbeats 4000000
namespace Lw
open PySem PySem.Spec PyProof.Rows L2 DL
local macro_rules | `(tactic| walk_at "dl") => `(tactic| simp (config := { maxSteps := 4000000 }) only [tdSeq, tdSet, tdAsg, tdPar, tdPar3, tdLc, tdItVar, tdIt, tdEnum, tdRg1, tdRg2, tdFor, tdRet, tdRetVar, tdRetN, tdNext, tdIf, tdIfS, tdAnd, tdOr, tdNot, tdAndV, tdOrV, tdNotV, tdB, tdBin, tdChain, tdVar, tdC, tdLst, tdNil, tdCons, tdStar, tdTup, tdNeg, tdSl, tdO0, tdO1, tdRev, tdCall, tdCallS, tdCB, tdIsi, tdAppend, tdExtendA, tdAsgPop, tdPop, tdAppNotPop, tdParPop, tdSetIx, tdAug, eqD, inD, ixD, isN, addD, subD, mulD, modD, fdivD, ltD, leD, gtD, geD, lenD, tupD, listD, DL.intD, reprD, absD, c1, startD, startS, putD, List.map, List.replicate, List.length, wipeD, List.set, List.getElem?_cons_zero, List.getElem?_cons_succ, List.cons_append, List.nil_append, List.append_nil, Nat.sub_self, Nat.reduceSub, Nat.reduceAdd, List.getElem?_nil, Bool.and_true, Bool.true_and, Bool.false_and, Bool.and_false, Bool.or_true, Bool.true_or, Bool.or_false, Bool.false_or, if_true, Bool.false_eq_true, if_false, true_and, and_true, Bool.true_xor, Bool.false_xor, at0, at1, at2, at3, at4, Option.some.injEq, exists_eq_left', Bool.not_true, true_or, or_true, Bool.not_false, id_eq, imp_self, implies_true, lfAll, lf])
local macro_rules | `(tactic| walk_at "kw") => `(tactic| simp (config := { maxSteps := 4000000 }) only [kw_any_flag, kw_any_not, kw_any_and, kw_any_or, kw_any_do, kw_any_go, kw_any_set, kw_any_clear, kw_flag_any, kw_flag_not, kw_flag_and, kw_flag_or, kw_flag_do, kw_flag_go, kw_flag_set, kw_flag_clear, kw_not_any, kw_not_flag, kw_not_and, kw_not_or, kw_not_do, kw_not_go, kw_not_set, kw_not_clear, kw_and_any, kw_and_flag, kw_and_not, kw_and_or, kw_and_do, kw_and_go, kw_and_set, kw_and_clear, kw_or_any, kw_or_flag, kw_or_not, kw_or_and, kw_or_do, kw_or_go, kw_or_set, kw_or_clear, kw_do_any, kw_do_flag, kw_do_not, kw_do_and, kw_do_or, kw_do_go, kw_do_set, kw_do_clear, kw_go_any, kw_go_flag, kw_go_not, kw_go_and, kw_go_or, kw_go_do, kw_go_set, kw_go_clear, kw_set_any, kw_set_flag, kw_set_not, kw_set_and, kw_set_or, kw_set_do, kw_set_go, kw_set_clear, kw_clear_any, kw_clear_flag, kw_clear_not, kw_clear_and, kw_clear_or, kw_clear_do, kw_clear_go, kw_clear_set, eq_self, decide_false, decide_true, Bool.false_eq_true, if_false, if_true, Bool.not_true, Bool.not_false, List.any_cons, List.any_nil, Bool.or_false, Bool.false_or, Bool.or_true, Bool.true_or, Bool.false_xor, Bool.true_xor, eqvS])
local macro_rules | `(tactic| walk_at "dv") => `(tactic| simp (config := { maxSteps := 4000000 }) only [tdSeq, tdSet, tdAsg, tdPar, tdPar3, tdLc, tdItVar, tdIt, tdEnum, tdRg1, tdRg2, tdFor, tdRet, tdRetVar, tdRetN, tdNext, tdIf, tdIfS, tdAnd, tdOr, tdNot, tdAndV, tdOrV, tdNotV, tdB, tdBin, tdChain, tdVar, tdC, tdLst, tdNil, tdCons, tdStar, tdTup, tdNeg, tdSl, tdO0, tdO1, tdRev, tdCall, tdCallS, tdCB, tdIsi, tdAppend, tdExtendA, tdAsgPop, tdPop, tdAppNotPop, tdParPop, tdSetIx, tdAug, eqD, inD, ixD, isN, addD, subD, mulD, modD, fdivD, ltD, leD, gtD, geD, lenD, tupD, listD, DL.intD, reprD, absD, c1, startD, startS, List.map, List.replicate, List.length, wipeD, List.set, List.getElem?_cons_zero, List.getElem?_cons_succ, List.cons_append, List.nil_append, List.append_nil, Nat.sub_self, Nat.reduceSub, Nat.reduceAdd, List.getElem?_nil, Bool.and_true, Bool.true_and, Bool.false_and, Bool.and_false, Bool.or_true, Bool.true_or, Bool.or_false, Bool.false_or, if_true, Bool.false_eq_true, if_false, true_and, and_true, Bool.true_xor, Bool.false_xor, at0, at1, at2, at3, at4, Option.some.injEq, exists_eq_left', Bool.not_true, true_or, or_true, Bool.not_false, id_eq, imp_self, implies_true, lfAll, lf])
def nameL (names : List Str) (r : Rl) (pl : List D) : List D := if r.on ∈ names then [] else [fault (pl ++ [dI 0]) "name"]
theorem take1 {α : Type} (xs : List α) : xs.take 1 = xs.head?.toList := by cases xs <;> rfl
theorem cond_head (fl : List Str) (c : Cd) (pl : List D) : (condL fl (parts c pl)).head? = cdF fl c pl := by
  unfold condL cdF
  rw [List.head?_map]
theorem rule_head (names acts fl md : List Str) (r : Rl) (pl : List D) : (nameL names r pl ++ condL fl (parts r.c (pl ++ [dI 1])) ++ deedsL acts fl md pl 0 [] r.ds).take 1 = (ruleF names acts fl md r pl).toList := by
  rw [take1, List.head?_append, List.head?_append, cond_head, deeds_head]
  unfold nameL ruleF
  by_cases h : r.on ∈ names
  · rw [if_pos h, if_pos h]
    cases cdF fl r.c (pl ++ [dI 1]) <;> rfl
  · rw [if_neg h, if_neg h]
    rfl
theorem sem_law_rule_wrong : ∀ ds R, g_law_rule_wrong ds R → t_law_rule_wrong { nx := fun _ => R .none false, rt := R } (startD N_law_rule_wrong ds) := by
  rintro _ R ⟨names, acts, p, r, pl, rfl, hpl, hl, hp, hr, r0⟩
  have hk : ∀ k : Int, lfAll (pl ++ [dI k]) = true := fun k => by simp [lf_append, hpl, lfAll, lf]
  have hn : lfAll (nameL names r pl) = true := by unfold nameL; split <;> simp [lfAll, lf_fault (hk 0)]
  have hnl : (nameL names r pl).length ≤ 1 := by unfold nameL; split <;> simp
  have hpn := parts_len r.c (pl ++ [dI 1])
  have hcs : r.c.size ≤ 60 := hr.c.1
  have hm := hp.n
  have hd := hr.n
  have e5 : ∀ q r' s6 s7 s8 s9 s10 s11 s12, tdRet (tdSl (tdVar 5) tdO0 (tdO1 (tdC (.int 1)))) { nx := fun _ => R .none false, rt := R } [.d (dT (names.map dS)), .d (dT (acts.map dS)), .d p.enc, .d r.enc, .d (dT pl), .own q (nameL names r pl ++ condL p.flags (parts r.c (pl ++ [dI 1])) ++ deedsL acts p.flags (p.modes.map (·.name)) pl 0 [] r.ds), s6, s7, .own r' s8, s9, s10, s11, s12, .un] := fun q r' s6 s7 s8 s9 s10 s11 s12 => by
    walk_at "dv"
    have : cutD (nameL names r pl ++ condL p.flags (parts r.c (pl ++ [dI 1])) ++ deedsL acts p.flags (p.modes.map (·.name)) pl 0 [] r.ds) none (some 1) = (ruleF names acts p.flags (p.modes.map (·.name)) r pl).toList := (cut_take (k := 1)).trans (rule_head names acts p.flags (p.modes.map (·.name)) r pl)
    rw [this]
    exact r0
  have er : r.enc = dT [dS r.on, r.c.enc, dT (r.ds.map Dd.enc)] := rfl
  have e4 : ∀ q r' s6 s7, lfAll (nameL names r pl ++ condL p.flags (parts r.c (pl ++ [dI 1]))) = true → (nameL names r pl ++ condL p.flags (parts r.c (pl ++ [dI 1]))).length ≤ (nameL names r pl).length + (parts r.c (pl ++ [dI 1])).length → (tdFor (tdEnum (tdBin ixD (tdVar 3) (tdC (.int 2)))) (gdTup 2 (gdCons (putD 9) (gdCons (putD 10) gdNil))) tbRW2) { nx := tdRet (tdSl (tdVar 5) tdO0 (tdO1 (tdC (.int 1)))) { nx := fun _ => R .none false, rt := R }, rt := R } [.d (dT (names.map dS)), .d (dT (acts.map dS)), .d p.enc, .d r.enc, .d (dT pl), .own q (nameL names r pl ++ condL p.flags (parts r.c (pl ++ [dI 1]))), s6, s7, .own r' (([] : List U).map U.txt |>.map dS), .un, .un, .un, .un, .un] := fun q r' s6 s7 h1 h2 => by
    generalize hB : tbRW2 = B
    generalize hT : tdRet (tdSl (tdVar 5) tdO0 (tdO1 (tdC (.int 1)))) = T at e5 ⊢
    rw [er]
    walk_at "dv"
    rw [enD_T]
    subst hB
    rw [← er]
    refine rw2_go (by omega) hpl (by omega) r.ds 0 [] _ q s6 s7 _ _ _ _ hr.ds h1 ?_ ?_ fun q r' s6 s7 s8 s9 s10 s11 s12 => e5 q r' s6 s7 s8 s9 s10 s11 s12
    · omega
    · simp; omega
  have e2 : ∀ q, (tdSeq (tdFor (tdIt (tdCall (tdCons (tdBin ixD (tdVar 3) (tdC (.int 1))) (tdCons (tdBin addD (tdVar 4) (tdTup (tdCons (tdC (.int 1)) tdNil))) tdNil)) (g_law_parts 8))) (gdTup 2 (gdCons (putD 6) (gdCons (putD 7) gdNil))) tbRW1)
      (tdSeq (tdSet 8 (tdLst tdNil)) (tdSeq (tdFor (tdEnum (tdBin ixD (tdVar 3) (tdC (.int 2)))) (gdTup 2 (gdCons (putD 9) (gdCons (putD 10) gdNil))) tbRW2) (tdRet (tdSl (tdVar 5) tdO0 (tdO1 (tdC (.int 1)))))))) { nx := fun _ => R .none false, rt := R } [.d (dT (names.map dS)), .d (dT (acts.map dS)), .d p.enc, .d r.enc, .d (dT pl), .own q (nameL names r pl), .un, .un, .un, .un, .un, .un, .un, .un] := fun q => by
    generalize hB : tbRW1 = B
    generalize hT : tdSeq (tdFor (tdEnum (tdBin ixD (tdVar 3) (tdC (.int 2)))) (gdTup 2 (gdCons (putD 9) (gdCons (putD 10) gdNil))) tbRW2) (tdRet (tdSl (tdVar 5) tdO0 (tdO1 (tdC (.int 1))))) = T
    rw [er]
    walk_at "dv"
    refine ⟨le_line (by simp), le_line (by simp; omega), r.c, pl ++ [dI 1], rfl, by have := hr.c.2.1; omega, hk 1, by have := hr.c.2.1; simp; omega, by omega, ?_⟩
    subst hB
    rw [← er]
    refine rw1_go (parts r.c (pl ++ [dI 1])) _ q _ _ (by omega) hn (fun x hx => ?_) fun q s6 s7 h1 h2 => ?_
    · obtain ⟨m1, m2⟩ := parts_mem hx
      refine ⟨m1 (hk 1), ?_⟩
      have := hr.c.2.1
      rw [List.length_append, List.length_singleton] at m2
      omega
    · subst hT
      show (tdSeq (tdSet 8 (tdLst tdNil)) _) _ _
      generalize hT : tdFor (tdEnum (tdBin ixD (tdVar 3) (tdC (.int 2)))) (gdTup 2 (gdCons (putD 9) (gdCons (putD 10) gdNil))) tbRW2 = T at e4 ⊢
      generalize hU : tdRet (tdSl (tdVar 5) tdO0 (tdO1 (tdC (.int 1)))) = U' at e4 ⊢
      walk_at "dv"
      refine ⟨le_line (by simp), putD_own rfl fun r' => ?_⟩
      exact e4 q r' s6 s7 h1 h2
  unfold t_law_rule_wrong
  generalize hT : (tdSeq (tdFor (tdIt (tdCall (tdCons (tdBin ixD (tdVar 3) (tdC (.int 1))) (tdCons (tdBin addD (tdVar 4) (tdTup (tdCons (tdC (.int 1)) tdNil))) tdNil)) (g_law_parts 8))) (gdTup 2 (gdCons (putD 6) (gdCons (putD 7) gdNil))) tbRW1)
      (tdSeq (tdSet 8 (tdLst tdNil)) (tdSeq (tdFor (tdEnum (tdBin ixD (tdVar 3) (tdC (.int 2)))) (gdTup 2 (gdCons (putD 9) (gdCons (putD 10) gdNil))) tbRW2) (tdRet (tdSl (tdVar 5) tdO0 (tdO1 (tdC (.int 1)))))))) = T at e2
  show (tdSeq (tdSet 5 (tdBin mulD (tdLst (tdCons (tdTup (tdCons (tdBin addD (tdVar 4) (tdTup (tdCons (tdC (.int 0)) tdNil))) (tdCons (tdC (.str "name")) tdNil))) tdNil)) (tdCB (tdCons (tdBin (inD true) (tdBin ixD (tdVar 3) (tdC (.int 0))) (tdVar 0)) tdNil) (c1 DL.intD)))) _) _ _
  suffices h : (tdSeq (tdSet 5 (tdBin mulD (tdLst (tdCons (tdTup (tdCons (tdBin addD (tdVar 4) (tdTup (tdCons (tdC (.int 0)) tdNil))) (tdCons (tdC (.str "name")) tdNil))) tdNil)) (tdCB (tdCons (tdBin (inD true) (tdBin ixD (tdVar 3) (tdC (.int 0))) (tdVar 0)) tdNil) (c1 DL.intD)))) T) { nx := fun _ => R .none false, rt := R } (startD N_law_rule_wrong [dT (names.map dS), dT (acts.map dS), p.enc, r.enc, dT pl]) by
    subst hT
    exact h
  clear hT
  rw [er] at e2 ⊢
  walk_at "dv"
  refine ⟨le_line (by simp), le_line (by simp; omega), le_line (by simp), le_line (by simp), ⟨rfl, flat_strs _⟩, ?_⟩
  rw [any_strs]
  obtain ⟨c1, c2, c3⟩ := mul_cond (!decide (r.on ∈ names)) (.none)
  refine ⟨c1, c2, c3, ?_⟩
  rw [mul_bool]
  have e9 : (if (!decide (r.on ∈ names)) = true then [PyData.tuple [PyData.tuple (pl ++ [PyData.int 0]), PyData.str "name"]] else []) = nameL names r pl := by
    unfold nameL
    by_cases h : r.on ∈ names <;> simp [h, fault]
  rw [e9]
  exact putD_own hn fun q => e2 q
theorem len_law_rule_wrong : ∀ ds R, g_law_rule_wrong ds R → ds.length = p_law_rule_wrong.length := by rintro _ R ⟨_, _, _, _, _, rfl, _⟩; rfl
end Lw

set_option Elab.async false
set_option linter.all false
set_option maxRecDepth 100000
set_option maxHeartbeats 4000000
namespace Lw
open PySem PySem.Spec PyProof.Rows L2 DL
local macro_rules | `(tactic| walk_at "dl") => `(tactic| simp (config := { maxSteps := 4000000 }) only [tdSeq, tdSet, tdAsg, tdPar, tdPar3, tdLc, tdItVar, tdIt, tdEnum, tdRg1, tdRg2, tdFor, tdRet, tdRetVar, tdRetN, tdNext, tdIf, tdIfS, tdAnd, tdOr, tdNot, tdAndV, tdOrV, tdNotV, tdB, tdBin, tdChain, tdVar, tdC, tdLst, tdNil, tdCons, tdStar, tdTup, tdNeg, tdSl, tdO0, tdO1, tdRev, tdCall, tdCallS, tdCB, tdIsi, tdAppend, tdExtendA, tdAsgPop, tdPop, tdAppNotPop, tdParPop, tdSetIx, tdAug, eqD, inD, ixD, isN, addD, subD, mulD, modD, fdivD, ltD, leD, gtD, geD, lenD, tupD, listD, DL.intD, reprD, absD, c1, startD, startS, putD, List.map, List.replicate, List.length, wipeD, List.set, List.getElem?_cons_zero, List.getElem?_cons_succ, List.cons_append, List.nil_append, List.append_nil, Nat.sub_self, Nat.reduceSub, Nat.reduceAdd, List.getElem?_nil, Bool.and_true, Bool.true_and, Bool.false_and, Bool.and_false, Bool.or_true, Bool.true_or, Bool.or_false, Bool.false_or, if_true, Bool.false_eq_true, if_false, true_and, and_true, Bool.true_xor, Bool.false_xor, at0, at1, at2, at3, at4, Option.some.injEq, exists_eq_left', Bool.not_true, true_or, or_true, Bool.not_false, id_eq, imp_self, implies_true, lfAll, lf])
local macro_rules | `(tactic| walk_at "kw") => `(tactic| simp (config := { maxSteps := 4000000 }) only [kw_any_flag, kw_any_not, kw_any_and, kw_any_or, kw_any_do, kw_any_go, kw_any_set, kw_any_clear, kw_flag_any, kw_flag_not, kw_flag_and, kw_flag_or, kw_flag_do, kw_flag_go, kw_flag_set, kw_flag_clear, kw_not_any, kw_not_flag, kw_not_and, kw_not_or, kw_not_do, kw_not_go, kw_not_set, kw_not_clear, kw_and_any, kw_and_flag, kw_and_not, kw_and_or, kw_and_do, kw_and_go, kw_and_set, kw_and_clear, kw_or_any, kw_or_flag, kw_or_not, kw_or_and, kw_or_do, kw_or_go, kw_or_set, kw_or_clear, kw_do_any, kw_do_flag, kw_do_not, kw_do_and, kw_do_or, kw_do_go, kw_do_set, kw_do_clear, kw_go_any, kw_go_flag, kw_go_not, kw_go_and, kw_go_or, kw_go_do, kw_go_set, kw_go_clear, kw_set_any, kw_set_flag, kw_set_not, kw_set_and, kw_set_or, kw_set_do, kw_set_go, kw_set_clear, kw_clear_any, kw_clear_flag, kw_clear_not, kw_clear_and, kw_clear_or, kw_clear_do, kw_clear_go, kw_clear_set, eq_self, decide_false, decide_true, Bool.false_eq_true, if_false, if_true, Bool.not_true, Bool.not_false, List.any_cons, List.any_nil, Bool.or_false, Bool.false_or, Bool.or_true, Bool.true_or, Bool.false_xor, Bool.true_xor, eqvS])
local macro_rules | `(tactic| walk_at "dv") => `(tactic| simp (config := { maxSteps := 4000000 }) only [tdSeq, tdSet, tdAsg, tdPar, tdPar3, tdLc, tdItVar, tdIt, tdEnum, tdRg1, tdRg2, tdFor, tdRet, tdRetVar, tdRetN, tdNext, tdIf, tdIfS, tdAnd, tdOr, tdNot, tdAndV, tdOrV, tdNotV, tdB, tdBin, tdChain, tdVar, tdC, tdLst, tdNil, tdCons, tdStar, tdTup, tdNeg, tdSl, tdO0, tdO1, tdRev, tdCall, tdCallS, tdCB, tdIsi, tdAppend, tdExtendA, tdAsgPop, tdPop, tdAppNotPop, tdParPop, tdSetIx, tdAug, eqD, inD, ixD, isN, addD, subD, mulD, modD, fdivD, ltD, leD, gtD, geD, lenD, tupD, listD, DL.intD, reprD, absD, c1, startD, startS, List.map, List.replicate, List.length, wipeD, List.set, List.getElem?_cons_zero, List.getElem?_cons_succ, List.cons_append, List.nil_append, List.append_nil, Nat.sub_self, Nat.reduceSub, Nat.reduceAdd, List.getElem?_nil, Bool.and_true, Bool.true_and, Bool.false_and, Bool.and_false, Bool.or_true, Bool.true_or, Bool.or_false, Bool.false_or, if_true, Bool.false_eq_true, if_false, true_and, and_true, Bool.true_xor, Bool.false_xor, at0, at1, at2, at3, at4, Option.some.injEq, exists_eq_left', Bool.not_true, true_or, or_true, Bool.not_false, id_eq, imp_self, implies_true, lfAll, lf])
def rulesL (names acts fl md : List Str) (i : Nat) : Nat → List Rl → List D
  | _, [] => []
  | k, r :: rs => (ruleF names acts fl md r [dI 4, dI i, dI 2, dI k]).toList ++ rulesL names acts fl md i (k + 1) rs
def modesL (names acts fl md : List Str) : Nat → List Md → List D
  | _, [] => []
  | i, m :: ms => rulesL names acts fl md i 0 m.rules ++ modesL names acts fl md (i + 1) ms
theorem filter_optD {o : Option D} (h : ∀ d, o = some d → d ≠ .none) : [optD o].filter (fun x => !isNone x) = o.toList := by
  cases o with
  | none => rfl
  | some d =>
    have := h d rfl
    have e : isNone d = false := by cases d <;> first | rfl | exact absurd rfl this
    simp [optD, e]
theorem rulesL_eq (names acts fl md : List Str) (i : Nat) : ∀ (rs : List Rl) (k : Nat), (rulesGo names acts fl md i k rs).filter (fun x => !isNone x) = rulesL names acts fl md i k rs
  | [], _ => rfl
  | r :: rs, k => by
    unfold rulesGo rulesL
    rw [← rulesL_eq names acts fl md i rs (k + 1), ← filter_optD (fun d e => (lf_ruleF (by simp [lfAll, lf]) d e).2), ← List.filter_append]
    rfl
theorem modesL_eq (names acts fl md : List Str) : ∀ (ms : List Md) (i : Nat), (modesGo names acts fl md i ms).filter (fun x => !isNone x) = modesL names acts fl md i ms
  | [], _ => rfl
  | m :: ms, i => by
    unfold modesGo modesL
    rw [List.filter_append, rulesL_eq, modesL_eq names acts fl md ms (i + 1)]
theorem rulesL_lf (names acts fl md : List Str) (i : Nat) : ∀ (rs : List Rl) (k : Nat), lfAll (rulesL names acts fl md i k rs) = true ∧ (rulesL names acts fl md i k rs).length ≤ rs.length
  | [], _ => ⟨rfl, Nat.le_refl _⟩
  | r :: rs, k => by
    obtain ⟨h1, h2⟩ := rulesL_lf names acts fl md i rs (k + 1)
    unfold rulesL
    rw [lf_append, h1, lf_toList fun d e => (lf_ruleF (by simp [lfAll, lf]) d e).1, List.length_append, List.length_cons]
    refine ⟨rfl, ?_⟩
    cases ruleF names acts fl md r [dI 4, dI i, dI 2, dI k] <;> simp <;> omega
def tbLW2 : TSd := (tdSet 3 (tdBin addD (tdVar 3) (tdCall (tdCons (tdVar 0) (tdCons (tdVar 1) (tdCons (tdVar 2) (tdCons (tdVar 7) (tdCons (tdTup (tdCons (tdC (.int 4)) (tdCons (tdVar 5) (tdCons (tdC (.int 2)) (tdCons (tdVar 6) tdNil))))) tdNil))))) g_law_rule_wrong)))
def tbLW1 : TSd := (tdFor (tdEnum (tdBin ixD (tdVar 4) (tdC (.int 2)))) (gdTup 2 (gdCons (putD 6) (gdCons (putD 7) gdNil))) tbLW2)
theorem lw2_go {E : DEnds} {names acts : List Str} {p : Pg} {i : Nat} {s4 : SD} (hp : p.ok) : ∀ (rs : List Rl) (k : Nat) (found : List D) (q : Addr) (s6 s7 : SD), (∀ r ∈ rs, r.ok) → lfAll found = true → found.length + rs.length ≤ 500 →
    (∀ q s6 s7, E.nx [.d (dT (names.map dS)), .d (dT (acts.map dS)), .d p.enc, .own q (found ++ rulesL names acts p.flags (p.modes.map (·.name)) i k rs), s4, .d (.int (i : Nat)), s6, s7]) →
    forGo (gdTup 2 (gdCons (putD 6) (gdCons (putD 7) gdNil))) tbLW2 E ((enT k rs).map fun x => .tuple [.int (x.1 : Nat), x.2.enc]) [.d (dT (names.map dS)), .d (dT (acts.map dS)), .d p.enc, .own q found, s4, .d (.int (i : Nat)), s6, s7]
  | [], k, found, q, s6, s7, _, _, _, h => by
    have := h q s6 s7
    show E.nx _
    simpa [rulesL] using this
  | r :: rs, k, found, q, s6, s7, hr, hf, hl, h => by
    rw [List.length_cons] at hl
    have hlf : lfAll (ruleF names acts p.flags (p.modes.map (·.name)) r [dI 4, dI i, dI 2, dI k]).toList = true := lf_toList fun d e => (lf_ruleF (by simp [lfAll, lf]) d e).1
    have hln : (ruleF names acts p.flags (p.modes.map (·.name)) r [dI 4, dI i, dI 2, dI k]).toList.length ≤ 1 := by cases ruleF names acts p.flags (p.modes.map (·.name)) r [dI 4, dI i, dI 2, dI k] <;> simp
    show gdTup 2 (gdCons (putD 6) (gdCons (putD 7) gdNil)) (.tuple [.int (k : Nat), r.enc]) true false _ _
    refine gd2 rfl (lf_encR r) ?_
    suffices hs : ∀ E2 : DEnds, (∀ q, E2.nx [.d (dT (names.map dS)), .d (dT (acts.map dS)), .d p.enc, .own q (found ++ (ruleF names acts p.flags (p.modes.map (·.name)) r [dI 4, dI i, dI 2, dI k]).toList), s4, .d (.int (i : Nat)), .d (.int (k : Nat)), .d r.enc]) → tbLW2 E2 [.d (dT (names.map dS)), .d (dT (acts.map dS)), .d p.enc, .own q found, s4, .d (.int (i : Nat)), .d (.int (k : Nat)), .d r.enc] from hs _ fun q => by
      refine lw2_go hp rs (k + 1) _ q _ _ (fun x hx => hr x (List.mem_cons_of_mem _ hx)) (by rw [lf_append, hf, hlf]; rfl) (by rw [List.length_append]; omega) fun q s6 s7 => ?_
      have := h q s6 s7
      unfold rulesL at this
      rw [List.append_assoc]
      exact this
    intro E2 hE
    unfold tbLW2
    walk_at "dv"
    refine ⟨le_line (by simp), names, acts, p, r, _, rfl, by simp [lfAll, lf], by simp, hp, hr r (by simp), le_line (Nat.le_trans (show found.length + (ruleF names acts p.flags (p.modes.map (·.name)) r [dI 4, dI i, dI 2, dI k]).toList.length ≤ 500 by omega) (by decide)), ?_⟩
    exact putD_own (by rw [lf_append, hf, hlf]; rfl) hE
theorem lw1_go {E : DEnds} {names acts : List Str} {p : Pg} (hp : p.ok) : ∀ (ms : List Md) (i : Nat) (found : List D) (q : Addr) (s4 s5 s6 s7 : SD), (∀ m ∈ ms, m.ok) → lfAll found = true → found.length + 12 * ms.length ≤ 500 →
    (∀ q s4 s5 s6 s7, E.nx [.d (dT (names.map dS)), .d (dT (acts.map dS)), .d p.enc, .own q (found ++ modesL names acts p.flags (p.modes.map (·.name)) i ms), s4, s5, s6, s7]) →
    forGo (gdTup 2 (gdCons (putD 5) (gdCons (putD 4) gdNil))) tbLW1 E ((enT i ms).map fun x => .tuple [.int (x.1 : Nat), x.2.enc]) [.d (dT (names.map dS)), .d (dT (acts.map dS)), .d p.enc, .own q found, s4, s5, s6, s7]
  | [], k, found, q, s4, s5, s6, s7, _, _, _, h => by
    have := h q s4 s5 s6 s7
    show E.nx _
    simpa [modesL] using this
  | m :: ms, i, found, q, s4, s5, s6, s7, hm, hf, hl, h => by
    rw [List.length_cons] at hl
    have hmk := hm m (by simp)
    have hrn := hmk.n
    obtain ⟨l1, l2⟩ := rulesL_lf names acts p.flags (p.modes.map (·.name)) i m.rules 0
    show gdTup 2 (gdCons (putD 5) (gdCons (putD 4) gdNil)) (.tuple [.int (i : Nat), m.enc]) true false _ _
    refine gd2 rfl (lf_encM m) ?_
    suffices hs : ∀ E2 : DEnds, (∀ q s4 s6 s7, E2.nx [.d (dT (names.map dS)), .d (dT (acts.map dS)), .d p.enc, .own q (found ++ rulesL names acts p.flags (p.modes.map (·.name)) i 0 m.rules), s4, .d (.int (i : Nat)), s6, s7]) → tbLW1 E2 [.d (dT (names.map dS)), .d (dT (acts.map dS)), .d p.enc, .own q found, .d m.enc, .d (.int (i : Nat)), s6, s7] from hs _ fun q s4 s6 s7 => by
      refine lw1_go hp ms (i + 1) _ q _ _ _ _ (fun x hx => hm x (List.mem_cons_of_mem _ hx)) (by rw [lf_append, hf, l1]; rfl) (by rw [List.length_append]; omega) fun q s4 s5 s6 s7 => ?_
      have := h q s4 s5 s6 s7
      unfold modesL at this
      rw [List.append_assoc]
      exact this
    intro E2 hE
    unfold tbLW1
    generalize hB : tbLW2 = B
    have em : m.enc = dT [dS m.name, .bool m.yes, dT (m.rules.map Rl.enc)] := rfl
    rw [em]
    walk_at "dv"
    rw [enD_T]
    subst hB
    rw [← em]
    exact lw2_go hp m.rules 0 found q _ _ hmk.rules hf (by omega) fun q s6 s7 => hE q _ s6 s7
theorem progF_head (names acts : List Str) (p : Pg) : optD ((actF acts p.starts [dI 2]).toList ++ ((twF p.flags).map fun i : Nat => fault [dI 3, dI (i : Int)] "twice").toList ++ ((twF (p.modes.map (·.name))).map fun i : Nat => fault [dI 4, dI (i : Int), dI 0] "twice").toList ++ modesL names acts p.flags (p.modes.map (·.name)) 0 p.modes).head? = progF names acts p := by
  unfold progF
  rw [modesL_eq]
  cases actF acts p.starts [dI 2] with
  | some f => rfl
  | none =>
    cases twF p.flags with
    | some k => rfl
    | none =>
      cases twF (p.modes.map (·.name)) with
      | some k => rfl
      | none => rfl
theorem sem_law_wrong : ∀ ds R, g_law_wrong ds R → t_law_wrong { nx := fun _ => R .none false, rt := R } (startD N_law_wrong ds) := by
  rintro _ R ⟨names, acts, p, rfl, hp, r⟩
  rw [← progF_head] at r
  have hA : lfAll (actF acts p.starts [dI 2]).toList = true := lf_toList (lf_actF rfl)
  have hAl : (actF acts p.starts [dI 2]).toList.length ≤ 1 := by cases actF acts p.starts [dI 2] <;> simp
  have hB : ∀ pl k : List D, lfAll pl = true → lfAll k = true → ∀ o : Option Nat, lfAll (o.map fun i : Nat => fault (pl ++ [dI (i : Int)] ++ k) "twice").toList = true ∧ (o.map fun i : Nat => fault (pl ++ [dI (i : Int)] ++ k) "twice").toList.length ≤ 1 := fun pl k h1 h2 o => by
    cases o with
    | none => exact ⟨rfl, Nat.zero_le _⟩
    | some i => exact ⟨by show (lf (fault (pl ++ [dI (i : Int)] ++ k) "twice") && true) = true; rw [lf_fault (show lfAll (pl ++ [dI (i : Int)] ++ k) = true by simp [lf_append, h1, h2, lfAll, lf])]; rfl, Nat.le_refl _⟩
  obtain ⟨b1, b2⟩ : lfAll ((twF p.flags).map fun i : Nat => fault [dI 3, dI (i : Int)] "twice").toList = true ∧ ((twF p.flags).map fun i : Nat => fault [dI 3, dI (i : Int)] "twice").toList.length ≤ 1 := hB [dI 3] [] rfl rfl (twF p.flags)
  obtain ⟨c1, c2⟩ : lfAll ((twF (p.modes.map (·.name))).map fun i : Nat => fault [dI 4, dI (i : Int), dI 0] "twice").toList = true ∧ ((twF (p.modes.map (·.name))).map fun i : Nat => fault [dI 4, dI (i : Int), dI 0] "twice").toList.length ≤ 1 := hB [dI 4] [dI 0] rfl rfl (twF (p.modes.map Md.name))
  obtain ⟨b1', b2'⟩ := hB [dI 3] [] rfl rfl (twF p.flags)
  obtain ⟨c1', c2'⟩ := hB [dI 4] [dI 0] rfl rfl (twF (p.modes.map Md.name))
  have c2'' : ((twF (p.modes.map (·.name))).map fun i : Nat => fault ([dI 4] ++ [dI (i : Int)] ++ [dI 0]) "twice").toList.length ≤ 1 := c2'
  have hn := hp.n
  have hns := hp.ns
  have hnf := hp.nf
  have ep : p.enc = dT [dS p.word, dS p.name, dT (p.starts.map dS), dT (p.flags.map dS), dT (p.modes.map Md.enc)] := rfl
  unfold t_law_wrong
  generalize hT : tbLW1 = T
  have hT2 : (tdFor (tdEnum (tdBin ixD (tdVar 4) (tdC (.int 2)))) (gdTup 2 (gdCons (putD 6) (gdCons (putD 7) gdNil))) (tdSet 3 (tdBin addD (tdVar 3) (tdCall (tdCons (tdVar 0) (tdCons (tdVar 1) (tdCons (tdVar 2) (tdCons (tdVar 7) (tdCons (tdTup (tdCons (tdC (.int 4)) (tdCons (tdVar 5) (tdCons (tdC (.int 2)) (tdCons (tdVar 6) tdNil))))) tdNil))))) g_law_rule_wrong)))) = T := hT
  rw [hT2]
  rw [ep]
  walk_at "dv"
  refine ⟨le_line (by simp), acts, p.starts, [dI 2], rfl, fun s hs => (hp.starts s hs), rfl, by omega, by simp, ?_⟩
  refine ⟨le_line (by simp), le_line (by simp), _, p.flags, [dI 3], [], rfl, rfl, by omega, rfl, rfl, by simp, by simp, le_line (by omega), ?_⟩
  refine putD_own (by rw [lf_append, hA]; (first | rw [b1] | rw [b1']); rfl) fun q => ?_
  walk_at "dv"
  refine lcGo_mapT Md.enc (fun m => dS m.name) true p.modes _ (fun m hm K h1 => ?_) (le_line (by omega)) fun a' ha => ?_
  · refine putD_lf (lf_encM m) ⟨rfl, ?_⟩
    simp only [Md.enc]
    walk_at "dv"
    exact h1
  obtain rfl := ha rfl
  have ec : p.modes.map (fun m => dS m.name) = (p.modes.map (·.name)).map dS := by rw [List.map_map]; rfl
  rw [ec]
  refine ⟨le_line (by simp), le_line (by simp), _, p.modes.map (·.name), [dI 4], [dI 0], rfl, rfl, by simp; omega, rfl, rfl, by simp, by simp, le_line (by rw [List.length_append]; omega), ?_⟩
  refine putD_own (by rw [lf_append, lf_append, hA]; (first | rw [b1] | rw [b1']); (first | rw [c1] | rw [c1']); rfl) fun q => ?_
  walk_at "dv"
  rw [enD_T]
  subst hT
  refine lw1_go hp p.modes 0 _ q _ _ _ _ hp.modes (by rw [lf_append, lf_append, hA]; (first | rw [b1] | rw [b1']); (first | rw [c1] | rw [c1']); rfl) (by rw [List.length_append, List.length_append]; omega) fun q s4 s5 s6 s7 => ?_
  generalize hL : (actF acts p.starts [dI 2]).toList ++ ((twF p.flags).map fun i : Nat => fault [dI 3, dI (i : Int)] "twice").toList ++ ((twF (p.modes.map (·.name))).map fun i : Nat => fault [dI 4, dI (i : Int), dI 0] "twice").toList ++ modesL names acts p.flags (p.modes.map (·.name)) 0 p.modes = L at r ⊢
  walk_at "dv"
  refine ⟨le_line (by simp), min_nil _, ?_⟩
  rw [eqv_nil]
  cases L with
  | nil => exact r
  | cons x xs => exact ⟨_, at0, r⟩
theorem len_law_wrong : ∀ ds R, g_law_wrong ds R → ds.length = p_law_wrong.length := by rintro _ R ⟨_, _, _, rfl, _⟩; rfl
end Lw

set_option Elab.async false
set_option linter.all false
set_option maxRecDepth 100000
set_option maxHeartbeats 4000000
namespace Lw
open PySem PySem.Spec PyProof.Rows L2 DL
local macro_rules | `(tactic| walk_at "dl") => `(tactic| simp (config := { maxSteps := 4000000 }) only [tdSeq, tdSet, tdAsg, tdPar, tdPar3, tdLc, tdItVar, tdIt, tdEnum, tdRg1, tdRg2, tdFor, tdRet, tdRetVar, tdRetN, tdNext, tdIf, tdIfS, tdAnd, tdOr, tdNot, tdAndV, tdOrV, tdNotV, tdB, tdBin, tdChain, tdVar, tdC, tdLst, tdNil, tdCons, tdStar, tdTup, tdNeg, tdSl, tdO0, tdO1, tdRev, tdCall, tdCallS, tdCB, tdIsi, tdAppend, tdExtendA, tdAsgPop, tdPop, tdAppNotPop, tdParPop, tdSetIx, tdAug, eqD, inD, ixD, isN, addD, subD, mulD, modD, fdivD, ltD, leD, gtD, geD, lenD, tupD, listD, DL.intD, reprD, absD, c1, startD, startS, putD, List.map, List.replicate, List.length, wipeD, List.set, List.getElem?_cons_zero, List.getElem?_cons_succ, List.cons_append, List.nil_append, List.append_nil, Nat.sub_self, Nat.reduceSub, Nat.reduceAdd, List.getElem?_nil, Bool.and_true, Bool.true_and, Bool.false_and, Bool.and_false, Bool.or_true, Bool.true_or, Bool.or_false, Bool.false_or, if_true, Bool.false_eq_true, if_false, true_and, and_true, Bool.true_xor, Bool.false_xor, at0, at1, at2, at3, at4, Option.some.injEq, exists_eq_left', Bool.not_true, true_or, or_true, Bool.not_false, id_eq, imp_self, implies_true, lfAll, lf])
local macro_rules | `(tactic| walk_at "kw") => `(tactic| simp (config := { maxSteps := 4000000 }) only [kw_any_flag, kw_any_not, kw_any_and, kw_any_or, kw_any_do, kw_any_go, kw_any_set, kw_any_clear, kw_flag_any, kw_flag_not, kw_flag_and, kw_flag_or, kw_flag_do, kw_flag_go, kw_flag_set, kw_flag_clear, kw_not_any, kw_not_flag, kw_not_and, kw_not_or, kw_not_do, kw_not_go, kw_not_set, kw_not_clear, kw_and_any, kw_and_flag, kw_and_not, kw_and_or, kw_and_do, kw_and_go, kw_and_set, kw_and_clear, kw_or_any, kw_or_flag, kw_or_not, kw_or_and, kw_or_do, kw_or_go, kw_or_set, kw_or_clear, kw_do_any, kw_do_flag, kw_do_not, kw_do_and, kw_do_or, kw_do_go, kw_do_set, kw_do_clear, kw_go_any, kw_go_flag, kw_go_not, kw_go_and, kw_go_or, kw_go_do, kw_go_set, kw_go_clear, kw_set_any, kw_set_flag, kw_set_not, kw_set_and, kw_set_or, kw_set_do, kw_set_go, kw_set_clear, kw_clear_any, kw_clear_flag, kw_clear_not, kw_clear_and, kw_clear_or, kw_clear_do, kw_clear_go, kw_clear_set, eq_self, decide_false, decide_true, Bool.false_eq_true, if_false, if_true, Bool.not_true, Bool.not_false, List.any_cons, List.any_nil, Bool.or_false, Bool.false_or, Bool.or_true, Bool.true_or, Bool.false_xor, Bool.true_xor, eqvS])
local macro_rules | `(tactic| walk_at "dv") => `(tactic| simp (config := { maxSteps := 4000000 }) only [tdSeq, tdSet, tdAsg, tdPar, tdPar3, tdLc, tdItVar, tdIt, tdEnum, tdRg1, tdRg2, tdFor, tdRet, tdRetVar, tdRetN, tdNext, tdIf, tdIfS, tdAnd, tdOr, tdNot, tdAndV, tdOrV, tdNotV, tdB, tdBin, tdChain, tdVar, tdC, tdLst, tdNil, tdCons, tdStar, tdTup, tdNeg, tdSl, tdO0, tdO1, tdRev, tdCall, tdCallS, tdCB, tdIsi, tdAppend, tdExtendA, tdAsgPop, tdPop, tdAppNotPop, tdParPop, tdSetIx, tdAug, eqD, inD, ixD, isN, addD, subD, mulD, modD, fdivD, ltD, leD, gtD, geD, lenD, tupD, listD, DL.intD, reprD, absD, c1, startD, startS, List.map, List.replicate, List.length, wipeD, List.set, List.getElem?_cons_zero, List.getElem?_cons_succ, List.cons_append, List.nil_append, List.append_nil, Nat.sub_self, Nat.reduceSub, Nat.reduceAdd, List.getElem?_nil, Bool.and_true, Bool.true_and, Bool.false_and, Bool.and_false, Bool.or_true, Bool.true_or, Bool.or_false, Bool.false_or, if_true, Bool.false_eq_true, if_false, true_and, and_true, Bool.true_xor, Bool.false_xor, at0, at1, at2, at3, at4, Option.some.injEq, exists_eq_left', Bool.not_true, true_or, or_true, Bool.not_false, id_eq, imp_self, implies_true, lfAll, lf])
def encT (l : List Str) : D := dT (l.map dS)
theorem lf_encT (ls : List (List Str)) : lfAll (ls.map encT) = true := lf_all.mpr fun x hx => by
  obtain ⟨l, _, rfl⟩ := List.mem_map.mp hx
  exact lf_strs l
def tbLots : TSd := (tdSet 1 (tdBin addD (tdVar 1) (tdLc (tdItVar 1) (putD 3) (fun _ R => R true) (tdBin addD (tdVar 3) (tdTup (tdCons (tdVar 2) tdNil))) (([("lot", 3)] : List (Str × Nat)).map (·.2)))))
theorem lots_go {E : DEnds} {d0 : D} : ∀ (ss : List Str) (acc : List (List Str)) (q : Addr) (s2 : SD), acc.length * 2 ^ ss.length ≤ 1000 → (∀ l ∈ acc, l.length + ss.length ≤ 1000) →
    (∀ q s2, E.nx [.d d0, .own q ((ss.foldl (fun acc s => acc ++ acc.map fun l => l ++ [s]) acc).map encT), s2, .un]) →
    forGo (putD 2) tbLots E (ss.map dS) [.d d0, .own q (acc.map encT), s2, .un]
  | [], acc, q, s2, _, _, h => h q s2
  | s :: ss, acc, q, s2, hl, ha, h => by
    have h2 : acc.length ≤ 500 := by
      have : 0 < 2 ^ ss.length := Nat.pow_pos (by decide)
      rw [List.length_cons, Nat.pow_succ] at hl
      have h3 : acc.length * 2 * 1 ≤ acc.length * 2 * 2 ^ ss.length := Nat.mul_le_mul_left _ this
      have h4 : acc.length * (2 ^ ss.length * 2) = acc.length * 2 * 2 ^ ss.length := by rw [Nat.mul_comm (2 ^ ss.length), Nat.mul_assoc]
      omega
    refine putD_lf rfl ?_
    suffices hs : ∀ E2 : DEnds, (∀ q, E2.nx [.d d0, .own q ((acc ++ acc.map fun l => l ++ [s]).map encT), .d (dS s), .un]) → tbLots E2 [.d d0, .own q (acc.map encT), .d (dS s), .un] from hs _ fun q => by
      refine lots_go ss _ q _ ?_ (fun l hx => ?_) h
      · rw [List.length_append, List.length_map]
        rw [List.length_cons, Nat.pow_succ] at hl
        have h4 : acc.length * (2 ^ ss.length * 2) = (acc.length + acc.length) * 2 ^ ss.length := by rw [← Nat.two_mul, Nat.mul_comm (2 ^ ss.length), ← Nat.mul_assoc, Nat.mul_comm acc.length 2]
        omega
      · rcases List.mem_append.mp hx with h5 | h5
        · have := ha l h5
          rw [List.length_cons] at this
          omega
        · obtain ⟨l', h6, rfl⟩ := List.mem_map.mp h5
          have := ha l' h6
          rw [List.length_cons] at this
          rw [List.length_append, List.length_singleton]
          omega
    intro E2 hE
    unfold tbLots
    walk_at "dv"
    refine lcGo_mapT encT (fun l => encT (l ++ [s])) true acc _ (fun l hx K h1 => ?_) (le_line (by omega)) fun a' ha' => ?_
    · refine putD_lf (lf_strs l) ⟨rfl, ?_⟩
      have := ha l hx
      unfold encT at h1 ⊢
      walk_at "dv"
      refine ⟨le_line (by simp), le_line (by simp; omega), ?_⟩
      rw [List.map_append] at h1
      exact h1
    · obtain rfl := ha' rfl
      have e : acc.map encT ++ acc.map (fun l => encT (l ++ [s])) = (acc ++ acc.map fun l => l ++ [s]).map encT := by
        rw [List.map_append, List.map_map]; rfl
      refine ⟨le_line (by simp; omega), ?_⟩
      rw [e]
      exact putD_own (lf_encT _) hE
theorem sem_law_lots : ∀ ds R, g_law_lots ds R → t_law_lots { nx := fun _ => R .none false, rt := R } (startD N_law_lots ds) := by
  rintro _ R ⟨ss, rfl, hl, r⟩
  unfold t_law_lots
  generalize hT : tbLots = T
  have hT2 : (tdSet 1 (tdBin addD (tdVar 1) (tdLc (tdItVar 1) (putD 3) (fun _ R => R true) (tdBin addD (tdVar 3) (tdTup (tdCons (tdVar 2) tdNil))) (([("lot", 3)] : List (Str × Nat)).map (·.2))))) = T := hT
  rw [hT2]
  walk_at "dv"
  refine ⟨le_line (by simp), le_line (by simp), putD_own rfl fun q => ?_⟩
  walk_at "dv"
  subst hT
  have hp : 1 * 2 ^ ss.length ≤ 1000 := by
    have : 2 ^ ss.length ≤ 2 ^ 6 := Nat.pow_le_pow_right (by decide) hl
    omega
  refine lots_go (acc := [[]]) ss q _ hp (fun l hx => ?_) fun q s2 => ?_
  · obtain rfl : l = [] := by simpa using hx
    simp; omega
  · walk_at "dv"
    exact r
theorem len_law_lots : ∀ ds R, g_law_lots ds R → ds.length = p_law_lots.length := by rintro _ R ⟨_, rfl, _⟩; rfl
end Lw

set_option Elab.async false
set_option linter.all false
set_option maxRecDepth 100000
set_option maxHeartbeats 4000000
namespace Lw
open PySem PySem.Spec PyProof.Rows L2 DL
local macro_rules | `(tactic| walk_at "dl") => `(tactic| simp (config := { maxSteps := 4000000 }) only [tdSeq, tdSet, tdAsg, tdPar, tdPar3, tdLc, tdItVar, tdIt, tdEnum, tdRg1, tdRg2, tdFor, tdRet, tdRetVar, tdRetN, tdNext, tdIf, tdIfS, tdAnd, tdOr, tdNot, tdAndV, tdOrV, tdNotV, tdB, tdBin, tdChain, tdVar, tdC, tdLst, tdNil, tdCons, tdStar, tdTup, tdNeg, tdSl, tdO0, tdO1, tdRev, tdCall, tdCallS, tdCB, tdIsi, tdAppend, tdExtendA, tdAsgPop, tdPop, tdAppNotPop, tdParPop, tdSetIx, tdAug, eqD, inD, ixD, isN, addD, subD, mulD, modD, fdivD, ltD, leD, gtD, geD, lenD, tupD, listD, DL.intD, reprD, absD, c1, startD, startS, putD, List.map, List.replicate, List.length, wipeD, List.set, List.getElem?_cons_zero, List.getElem?_cons_succ, List.cons_append, List.nil_append, List.append_nil, Nat.sub_self, Nat.reduceSub, Nat.reduceAdd, List.getElem?_nil, Bool.and_true, Bool.true_and, Bool.false_and, Bool.and_false, Bool.or_true, Bool.true_or, Bool.or_false, Bool.false_or, if_true, Bool.false_eq_true, if_false, true_and, and_true, Bool.true_xor, Bool.false_xor, at0, at1, at2, at3, at4, Option.some.injEq, exists_eq_left', Bool.not_true, true_or, or_true, Bool.not_false, id_eq, imp_self, implies_true, lfAll, lf])
local macro_rules | `(tactic| walk_at "kw") => `(tactic| simp (config := { maxSteps := 4000000 }) only [kw_any_flag, kw_any_not, kw_any_and, kw_any_or, kw_any_do, kw_any_go, kw_any_set, kw_any_clear, kw_flag_any, kw_flag_not, kw_flag_and, kw_flag_or, kw_flag_do, kw_flag_go, kw_flag_set, kw_flag_clear, kw_not_any, kw_not_flag, kw_not_and, kw_not_or, kw_not_do, kw_not_go, kw_not_set, kw_not_clear, kw_and_any, kw_and_flag, kw_and_not, kw_and_or, kw_and_do, kw_and_go, kw_and_set, kw_and_clear, kw_or_any, kw_or_flag, kw_or_not, kw_or_and, kw_or_do, kw_or_go, kw_or_set, kw_or_clear, kw_do_any, kw_do_flag, kw_do_not, kw_do_and, kw_do_or, kw_do_go, kw_do_set, kw_do_clear, kw_go_any, kw_go_flag, kw_go_not, kw_go_and, kw_go_or, kw_go_do, kw_go_set, kw_go_clear, kw_set_any, kw_set_flag, kw_set_not, kw_set_and, kw_set_or, kw_set_do, kw_set_go, kw_set_clear, kw_clear_any, kw_clear_flag, kw_clear_not, kw_clear_and, kw_clear_or, kw_clear_do, kw_clear_go, kw_clear_set, eq_self, decide_false, decide_true, Bool.false_eq_true, if_false, if_true, Bool.not_true, Bool.not_false, List.any_cons, List.any_nil, Bool.or_false, Bool.false_or, Bool.or_true, Bool.true_or, Bool.false_xor, Bool.true_xor, eqvS])
local macro_rules | `(tactic| walk_at "dv") => `(tactic| simp (config := { maxSteps := 4000000 }) only [tdSeq, tdSet, tdAsg, tdPar, tdPar3, tdLc, tdItVar, tdIt, tdEnum, tdRg1, tdRg2, tdFor, tdRet, tdRetVar, tdRetN, tdNext, tdIf, tdIfS, tdAnd, tdOr, tdNot, tdAndV, tdOrV, tdNotV, tdB, tdBin, tdChain, tdVar, tdC, tdLst, tdNil, tdCons, tdStar, tdTup, tdNeg, tdSl, tdO0, tdO1, tdRev, tdCall, tdCallS, tdCB, tdIsi, tdAppend, tdExtendA, tdAsgPop, tdPop, tdAppNotPop, tdParPop, tdSetIx, tdAug, eqD, inD, ixD, isN, addD, subD, mulD, modD, fdivD, ltD, leD, gtD, geD, lenD, tupD, listD, DL.intD, reprD, absD, c1, startD, startS, List.map, List.replicate, List.length, wipeD, List.set, List.getElem?_cons_zero, List.getElem?_cons_succ, List.cons_append, List.nil_append, List.append_nil, Nat.sub_self, Nat.reduceSub, Nat.reduceAdd, List.getElem?_nil, Bool.and_true, Bool.true_and, Bool.false_and, Bool.and_false, Bool.or_true, Bool.true_or, Bool.or_false, Bool.false_or, if_true, Bool.false_eq_true, if_false, true_and, and_true, Bool.true_xor, Bool.false_xor, at0, at1, at2, at3, at4, Option.some.injEq, exists_eq_left', Bool.not_true, true_or, or_true, Bool.not_false, id_eq, imp_self, implies_true, lfAll, lf])
theorem perm_map_inv {α β : Type} {f : α → β} : ∀ {l1 l2 : List β}, l1.Perm l2 → ∀ F : List α, l2 = F.map f → ∃ x : List α, x.Perm F ∧ l1 = x.map f := fun h => by
  induction h with
  | nil => intro F e; exact ⟨F, .refl _, e⟩
  | cons a p ih =>
    intro F e
    cases F with
    | nil => cases e
    | cons b F =>
      rw [List.map_cons] at e
      injection e with e1 e2
      obtain ⟨x, hx, e3⟩ := ih F e2
      exact ⟨b :: x, hx.cons b, by rw [List.map_cons, e1, e3]⟩
  | swap a b l =>
    intro F e
    match F, e with
    | [], e => cases e
    | [_], e => cases e
    | c :: d :: F, e =>
      rw [List.map_cons, List.map_cons] at e
      injection e with e1 e2
      injection e2 with e2 e3
      exact ⟨d :: c :: F, .swap c d F, by rw [List.map_cons, List.map_cons, e1, e2, e3]⟩
  | trans p q ih1 ih2 =>
    intro F e
    obtain ⟨y, hy, e2⟩ := ih2 F e
    obtain ⟨x, hx, e3⟩ := ih1 y e2
    exact ⟨x, hx.trans hy, e3⟩
theorem rightDs.perm {acts fl md : List Str} {F x : List Dd} (h : rightDs acts fl md F) (p : x.Perm F) : rightDs acts fl md x :=
  ⟨fun d hd => h.each d (p.mem_iff.mp hd), (p.map Dd.u).nodup_iff.mpr h.nd, by rw [p.length_eq]; exact h.n⟩
theorem rightDs.snoc {acts fl md : List Str} {F : List Dd} {d : Dd} (h : rightDs acts fl md F) (hd : d.right acts fl md) (hu : d.u ∉ F.map Dd.u) (hl : F.length ≤ 5) : rightDs acts fl md (F ++ [d]) := by
  refine ⟨fun x hx => ?_, ?_, by rw [List.length_append, List.length_singleton]; omega⟩
  · rcases List.mem_append.mp hx with h1 | h1
    · exact h.each x h1
    · obtain rfl := List.mem_singleton.mp h1
      exact hd
  · rw [List.map_append, List.map_singleton]
    refine List.nodup_append.mpr ⟨h.nd, by simp, fun a ha b hb => ?_⟩
    obtain rfl := List.mem_singleton.mp hb
    intro e
    exact hu (e ▸ ha)
theorem lf_encds (ds : List Dd) : lfAll (ds.map Dd.enc) = true := lf_all.mpr fun x hx => by
  obtain ⟨d, _, rfl⟩ := List.mem_map.mp hx
  exact lf_encd d
def isGo : Dd → Bool
  | .go _ => true
  | _ => false
def tDe5 : TSd := (tdRet (tdCB (tdCons (tdCallS 0 (tdCons (tdVar 6) tdNil) g_law_mixed) tdNil) (c1 tupD)))
def tDe4 : TSd := (tdIfS (tdAnd (tdB (tdBin (eqD false) (tdLc (tdItVar 6) (putD 7) (tdB (tdBin (eqD false) (tdBin ixD (tdVar 7) (tdC (.int 0))) (tdC (.str "go")))) (tdVar 7) (([("deed", 7)] : List (Str × Nat)).map (·.2))) (tdLst tdNil))) (tdB (tdBin (eqD false) (tdCallS 0 (tdCons (tdC (.int 2)) tdNil) g_law_pick) (tdC (.int 0))))) (tdAppend 6 (tdTup (tdCons (tdC (.str "go")) (tdCons (tdCallS 0 (tdCons (tdCB (tdCons (tdVar 3) tdNil) (c1 listD)) tdNil) g_law_of) tdNil)))) tdNext)
theorem deeds5 {R : D → Bool → Prop} {acts fl md so : List Str} {ys : List Int} {F : List Dd} {q r : Addr} {s7 : SD} (hR : ∀ x : List Dd, rightDs acts fl md x → R (dT (x.map Dd.enc)) false) (hF : rightDs acts fl md F) :
    tDe5 { nx := fun _ => R .none false, rt := R } [.src, .d (dT (acts.map dS)), .d (dT (fl.map dS)), .d (dT (md.map dS)), .d (dT (ys.map dI)), .own q (so.map dS), .own r (F.map Dd.enc), s7] := by
  unfold tDe5
  have := hF.n
  walk_at "dv"
  refine ⟨_, _, rfl, rfl, by simp; omega, fun ys hp => ?_⟩
  obtain ⟨x, hx, rfl⟩ := perm_map_inv hp F rfl
  exact hR x (hF.perm hx)
theorem go_out {F : List Dd} (h : (F.filter isGo).isEmpty = true) : U.go ∉ F.map Dd.u := fun h1 => by
  obtain ⟨d, hd, e⟩ := List.mem_map.mp h1
  cases d with
  | go s =>
    have : Dd.go s ∈ F.filter isGo := List.mem_filter.mpr ⟨hd, rfl⟩
    rw [List.isEmpty_iff.mp h] at this
    cases this
  | _ => cases e
theorem deeds4 {R : D → Bool → Prop} {acts fl md so : List Str} {ys : List Int} {F : List Dd} {q r : Addr} (hR : ∀ x : List Dd, rightDs acts fl md x → R (dT (x.map Dd.enc)) false) (hF : rightDs acts fl md F) (hl : F.length ≤ 5) (h0 : md ≠ []) (hm : md.length ≤ 10) :
    tDe4 { nx := tDe5 { nx := fun _ => R .none false, rt := R }, rt := R } [.src, .d (dT (acts.map dS)), .d (dT (fl.map dS)), .d (dT (md.map dS)), .d (dT (ys.map dI)), .own q (so.map dS), .own r (F.map Dd.enc), .un] := by
  unfold tDe4
  have h5 : ∀ F r s7, rightDs acts fl md F → tDe5 { nx := fun _ => R .none false, rt := R } [.src, .d (dT (acts.map dS)), .d (dT (fl.map dS)), .d (dT (md.map dS)), .d (dT (ys.map dI)), .own q (so.map dS), .own r (F.map Dd.enc), s7] := fun F r s7 h => deeds5 hR h
  generalize tDe5 = T at h5 ⊢
  walk_at "dv"
  refine lcGo_fmT Dd.enc isGo Dd.enc true F [] true _ (fun d hd K1 K2 h1 h2 => ?_) (le_line (by simp; omega)) fun a' ha => ?_
  · refine putD_lf (lf_encd d) ⟨rfl, ?_⟩
    cases d with
    | run ts =>
      simp only [Dd.enc] at h1 h2 ⊢
      walk_at "dv"
      walk_at "kw"
      exact h2 rfl
    | go s =>
      simp only [Dd.enc] at h1 h2 ⊢
      walk_at "dv"
      walk_at "kw"
      exact h1 rfl
    | set s =>
      simp only [Dd.enc] at h1 h2 ⊢
      walk_at "dv"
      walk_at "kw"
      exact h2 rfl
    | clear s =>
      simp only [Dd.enc] at h1 h2 ⊢
      walk_at "dv"
      walk_at "kw"
      exact h2 rfl
  · obtain rfl := ha rfl
    rw [List.nil_append]
    refine ⟨le_line (by simp), min_nil _, ?_⟩
    rw [eqv_nil, List.isEmpty_map]
    cases hg : (F.filter isGo).isEmpty with
    | false => exact h5 F r _ hF
    | true =>
      refine ⟨2, rfl, by decide, fun k k0 k1 => ?_⟩
      walk_at "dv"
      have fin : ∀ b : Bool, if b = true then g_law_of [PyData.list (md.map dS)] fun d f => 2 ≤ sizeLine ∧ (F.map Dd.enc).length < sizeLine ∧ T { nx := fun _ => R .none false, rt := R } [.src, .d (dT (acts.map dS)), .d (dT (fl.map dS)), .d (dT (md.map dS)), .d (dT (ys.map dI)), .own q (so.map dS), .own r (F.map Dd.enc ++ [dT [dS "go", d]]), .un] else T { nx := fun _ => R .none false, rt := R } [.src, .d (dT (acts.map dS)), .d (dT (fl.map dS)), .d (dT (md.map dS)), .d (dT (ys.map dI)), .own q (so.map dS), .own r (F.map Dd.enc), .un] := fun b => by
        cases b with
        | false => exact h5 F r _ hF
        | true =>
          refine ⟨_, _, rfl, rfl, by simpa using h0, by simp; omega, fun x hx => ?_⟩
          obtain ⟨s, hs, rfl⟩ := List.mem_map.mp hx
          refine ⟨le_line (by simp), lt_line (by simp; omega), ?_⟩
          have := h5 (F ++ [.go s]) r .un (hF.snoc (d := .go s) hs (go_out hg) hl)
          rw [List.map_append] at this
          exact this
      exact fin _
def tDe3 : TSd := (tdIfS (tdB (tdBin (eqD false) (tdCallS 0 (tdCons (tdC (.int 3)) tdNil) g_law_pick) (tdC (.int 0)))) (tdAppend 6 (tdIf (tdOr (tdB (tdBin (gtD) (tdCB (tdCons (tdVar 5) tdNil) (c1 lenD)) (tdC (.int 1)))) (tdB (tdBin (ltD) (tdCB (tdCons (tdVar 6) tdNil) (c1 lenD)) (tdC (.int 1))))) (tdTup (tdCons (tdC (.str "clear")) (tdCons (tdBin ixD (tdVar 5) (tdNeg (tdC (.int 1)))) tdNil))) (tdTup (tdCons (tdC (.str "go")) (tdCons (tdBin ixD (tdVar 3) (tdC (.int 0))) tdNil))))) tdNext)
def tDe2 : TSd := (tdIfS (tdB (tdBin (eqD false) (tdCallS 0 (tdCons (tdC (.int 2)) tdNil) g_law_pick) (tdC (.int 0)))) (tdAppend 6 (tdTup (tdCons (tdC (.str "set")) (tdCons (tdBin ixD (tdVar 5) (tdC (.int 0))) tdNil)))) tdNext)
theorem deeds3 {E : DEnds} {acts fl md so : List Str} {a0 : Str} {ys : List Int} {F : List Dd} {q r : Addr} (hE : ∀ F : List Dd, rightDs acts fl md F → F.length ≤ 3 → E.nx [.src, .d (dT (acts.map dS)), .d (dT (fl.map dS)), .d (dT (md.map dS)), .d (dT (ys.map dI)), .own q ((a0 :: so).map dS), .own r (F.map Dd.enc), .un])
    (hs : ∀ s ∈ a0 :: so, s ∈ fl) (hn : (a0 :: so).Nodup) (hF : rightDs acts fl md F) (hl : F.length ≤ 2) (hu : ∀ u ∈ F.map Dd.u, u = .run ∨ u = .flag a0) (h0 : md ≠ []) :
    tDe3 E [.src, .d (dT (acts.map dS)), .d (dT (fl.map dS)), .d (dT (md.map dS)), .d (dT (ys.map dI)), .own q ((a0 :: so).map dS), .own r (F.map Dd.enc), .un] := by
  obtain ⟨m0, mr, rfl⟩ : ∃ m mr, md = m :: mr := by
    cases md with
    | nil => exact absurd rfl h0
    | cons m mr => exact ⟨m, mr, rfl⟩
  unfold tDe3
  walk_at "dv"
  refine ⟨3, rfl, by decide, fun k k0 k1 => ?_⟩
  have fin : ∀ d : Dd, d.right acts fl (m0 :: mr) → d.u ∉ F.map Dd.u → E.nx [.src, .d (dT (acts.map dS)), .d (dT (fl.map dS)), .d (dT ((m0 :: mr).map dS)), .d (dT (ys.map dI)), .own q ((a0 :: so).map dS), .own r (F.map Dd.enc ++ [d.enc]), .un] := fun d hd hdu => by
    have := hE (F ++ [d]) (hF.snoc hd hdu (by omega)) (by simp; omega)
    rw [List.map_append] at this
    exact this
  by_cases hk : k = 0
  · walk_at "dv"
    rw [decide_eq_true hk]
    refine Eq.mpr (if_pos rfl) ?_
    obtain ⟨sl, hsl⟩ : ∃ sl, (a0 :: so).getLast? = some sl := ⟨_, List.getLast?_eq_some_getLast (by simp)⟩
    have hslm : sl ∈ a0 :: so := List.mem_of_getLast? hsl
    have clr : (Dd.clear sl).u ∉ F.map Dd.u → (∃ d, atI (dS a0 :: so.map dS) (-1) = some d ∧ 2 ≤ sizeLine ∧ (F.map Dd.enc).length < sizeLine ∧ (False ∨ lf d = true) ∧ E.nx [.src, .d (dT (acts.map dS)), .d (dT (fl.map dS)), .d (dT ((m0 :: mr).map dS)), .d (dT (ys.map dI)), .own q ((a0 :: so).map dS), .own r (F.map Dd.enc ++ [dT [dS "clear", d]]), .un]) := fun h =>
      ⟨dS sl, at_last (xs := (a0 :: so).map dS) (by rw [List.getLast?_map, hsl]; rfl), le_line (by simp), lt_line (by simp; omega), .inr rfl, fin (.clear sl) (hs sl hslm) h⟩
    cases so with
    | nil =>
      refine Eq.mpr (if_neg (by simp)) ?_
      cases F with
      | nil =>
        refine Eq.mpr (if_pos (by simp)) ?_
        exact clr (by simp)
      | cons f F =>
        refine Eq.mpr (if_neg (by simp; omega)) ?_
        exact ⟨le_line (by simp), lt_line (by simp at hl ⊢; omega), fin (.go m0) (by simp [Dd.right]) fun h => by rcases hu _ h with h | h <;> cases h⟩
    | cons b so =>
      refine Eq.mpr (if_pos (by simp; omega)) ?_
      refine clr fun h => ?_
      rcases hu _ h with h | h
      · cases h
      · have e : sl = a0 := by injection h
        have hmem : sl ∈ b :: so := by
          rw [List.getLast?_cons_cons] at hsl
          exact List.mem_of_getLast? hsl
        rw [e] at hmem
        exact (List.nodup_cons.mp hn).1 hmem
  · walk_at "dv"
    rw [decide_eq_false hk]
    exact hE F hF (by omega)
theorem deeds2 {E : DEnds} {acts fl md so : List Str} {a0 : Str} {ys : List Int} {F : List Dd} {q r : Addr} (hE : ∀ F : List Dd, rightDs acts fl md F → F.length ≤ 2 → (∀ u ∈ F.map Dd.u, u = .run ∨ u = .flag a0) → E.nx [.src, .d (dT (acts.map dS)), .d (dT (fl.map dS)), .d (dT (md.map dS)), .d (dT (ys.map dI)), .own q ((a0 :: so).map dS), .own r (F.map Dd.enc), .un])
    (hs : ∀ s ∈ a0 :: so, s ∈ fl) (hF : rightDs acts fl md F) (hl : F.length ≤ 1) (hu : ∀ u ∈ F.map Dd.u, u = .run) :
    tDe2 E [.src, .d (dT (acts.map dS)), .d (dT (fl.map dS)), .d (dT (md.map dS)), .d (dT (ys.map dI)), .own q ((a0 :: so).map dS), .own r (F.map Dd.enc), .un] := by
  unfold tDe2
  walk_at "dv"
  refine ⟨2, rfl, by decide, fun k k0 k1 => ?_⟩
  by_cases hk : k = 0
  · walk_at "dv"
    rw [decide_eq_true hk]
    refine Eq.mpr (if_pos rfl) ?_
    refine ⟨le_line (by simp), lt_line (by simp; omega), ?_⟩
    have := hE (F ++ [.set a0]) (hF.snoc (d := .set a0) (hs a0 (by simp)) (fun h => by cases hu _ h) (by omega)) (by simp; omega) fun u h => by
      rw [List.map_append, List.mem_append] at h
      rcases h with h | h
      · exact .inl (hu u h)
      · exact .inr (by simpa [Dd.u] using h)
    rw [List.map_append] at this
    exact this
  · walk_at "dv"
    rw [decide_eq_false hk]
    exact hE F hF (by omega) fun u h => .inl (hu u h)
theorem sem_law_deeds : ∀ ds R, g_law_deeds ds R → t_law_deeds { nx := fun _ => R .none false, rt := R } (startS N_law_deeds ds) := by
  rintro _ R ⟨acts, fl, md, rfl, ha, ha1, ha3, hf0, hfn, hfl, hm0, hm, r⟩
  unfold t_law_deeds
  generalize h2 : tDe2 = T2
  generalize h3 : tDe3 = T3
  generalize h4 : tDe4 = T4
  generalize h5 : tDe5 = T5
  have h2' : (tdIfS (tdB (tdBin (eqD false) (tdCallS 0 (tdCons (tdC (.int 2)) tdNil) g_law_pick) (tdC (.int 0)))) (tdAppend 6 (tdTup (tdCons (tdC (.str "set")) (tdCons (tdBin ixD (tdVar 5) (tdC (.int 0))) tdNil)))) tdNext) = T2 := h2
  have h3' : (tdIfS (tdB (tdBin (eqD false) (tdCallS 0 (tdCons (tdC (.int 3)) tdNil) g_law_pick) (tdC (.int 0)))) (tdAppend 6 (tdIf (tdOr (tdB (tdBin (gtD) (tdCB (tdCons (tdVar 5) tdNil) (c1 lenD)) (tdC (.int 1)))) (tdB (tdBin (ltD) (tdCB (tdCons (tdVar 6) tdNil) (c1 lenD)) (tdC (.int 1))))) (tdTup (tdCons (tdC (.str "clear")) (tdCons (tdBin ixD (tdVar 5) (tdNeg (tdC (.int 1)))) tdNil))) (tdTup (tdCons (tdC (.str "go")) (tdCons (tdBin ixD (tdVar 3) (tdC (.int 0))) tdNil))))) tdNext) = T3 := h3
  have h4' : (tdIfS (tdAnd (tdB (tdBin (eqD false) (tdLc (tdItVar 6) (putD 7) (tdB (tdBin (eqD false) (tdBin ixD (tdVar 7) (tdC (.int 0))) (tdC (.str "go")))) (tdVar 7) (([("deed", 7)] : List (Str × Nat)).map (·.2))) (tdLst tdNil))) (tdB (tdBin (eqD false) (tdCallS 0 (tdCons (tdC (.int 2)) tdNil) g_law_pick) (tdC (.int 0))))) (tdAppend 6 (tdTup (tdCons (tdC (.str "go")) (tdCons (tdCallS 0 (tdCons (tdCB (tdCons (tdVar 3) tdNil) (c1 listD)) tdNil) g_law_of) tdNil)))) tdNext) = T4 := h4
  have h5' : (tdRet (tdCB (tdCons (tdCallS 0 (tdCons (tdVar 6) tdNil) g_law_mixed) tdNil) (c1 tupD))) = T5 := h5
  rw [h2', h3', h4', h5']
  walk_at "dv"
  refine ⟨acts.length, 2, by simp, ha1, ha3, by decide, fun ys hy hyl => ?_⟩
  refine ⟨acts.length, ys, by simp, ha1, ha3, by omega, hy, fun zs hz hzl => ?_⟩
  walk_at "dv"
  refine ⟨_, _, rfl, rfl, by simp; omega, fun ys' hp => ?_⟩
  obtain ⟨so, hso, rfl⟩ := perm_map_inv hp fl rfl
  refine putD_lf (lf_ints' _) (putD_own (lf_strs _) fun q => ?_)
  walk_at "dv"
  refine ⟨acts, zs, rfl, ha, by omega, hz, fun ts ht htl => ?_⟩
  refine ⟨le_line (by simp), le_line (by simp), le_line (by simp), min_nilT _, ?_⟩
  obtain ⟨c1, c2, c3⟩ := mul_cond (!PyData.eqv (dT (zs.map dI)) (.tuple [])) (.none)
  refine ⟨c1, c2, c3, ?_⟩
  rw [mul_bool]
  have hne : ∀ s ∈ so, s ∈ fl := fun s hs => hso.mem_iff.mp hs
  have hnd : so.Nodup := hso.nodup_iff.mpr hfn
  obtain ⟨a0, so', rfl⟩ : ∃ a0 so', so = a0 :: so' := by
    cases so with
    | nil => exact absurd hso.symm.eq_nil hf0
    | cons a so => exact ⟨a, so, rfl⟩
  subst h2 h3 h4 h5
  have fin : ∀ b : Bool, putD 6 (.list (if b = true then [PyData.tuple [PyData.str "do", dT (ts.map dS)]] else [])) true true [.src, .d (dT (acts.map dS)), .d (dT (fl.map dS)), .d (dT (md.map dS)), .d (dT (zs.map dI)), .own q ((a0 :: so').map dS), .un, .un] (tdSeq tDe2 (tdSeq tDe3 (tdSeq tDe4 tDe5)) { nx := fun x => R .none false, rt := R }) := fun b => by
    obtain ⟨F, hF, hl, hu, e⟩ : ∃ F : List Dd, rightDs acts fl md F ∧ F.length ≤ 1 ∧ (∀ u ∈ F.map Dd.u, u = .run) ∧ (if b = true then [PyData.tuple [PyData.str "do", dT (ts.map dS)]] else []) = F.map Dd.enc := by
      cases b with
      | true =>
        refine ⟨[.run ts], ⟨fun d hd => ?_, by simp, by simp⟩, by simp, by simp [Dd.u], rfl⟩
        obtain rfl := List.mem_singleton.mp hd
        exact ⟨by omega, ht⟩
      | false => exact ⟨[], ⟨by simp, by simp, by simp⟩, by simp, by simp, rfl⟩
    rw [e]
    refine putD_own (lf_encds F) fun r1 => ?_
    refine deeds2 (fun F hF hl hu => ?_) hne hF hl hu
    refine deeds3 (fun F hF hl => ?_) hne hnd hF hl hu hm0
    exact deeds4 r hF (by omega) hm0 hm
  exact fin _
theorem len_law_deeds : ∀ ds R, g_law_deeds ds R → ds.length + 1 = p_law_deeds.length := by rintro _ R ⟨_, _, _, rfl, _⟩; rfl
end Lw

set_option Elab.async false
set_option linter.all false
set_option maxRecDepth 100000
set_option maxHeartbeats 4000000
namespace Lw
open PySem PySem.Spec PyProof.Rows L2 DL
local macro_rules | `(tactic| walk_at "dl") => `(tactic| simp (config := { maxSteps := 4000000 }) only [tdSeq, tdSet, tdAsg, tdPar, tdPar3, tdLc, tdItVar, tdIt, tdEnum, tdRg1, tdRg2, tdFor, tdRet, tdRetVar, tdRetN, tdNext, tdIf, tdIfS, tdAnd, tdOr, tdNot, tdAndV, tdOrV, tdNotV, tdB, tdBin, tdChain, tdVar, tdC, tdLst, tdNil, tdCons, tdStar, tdTup, tdNeg, tdSl, tdO0, tdO1, tdRev, tdCall, tdCallS, tdCB, tdIsi, tdAppend, tdExtendA, tdAsgPop, tdPop, tdAppNotPop, tdParPop, tdSetIx, tdAug, eqD, inD, ixD, isN, addD, subD, mulD, modD, fdivD, ltD, leD, gtD, geD, lenD, tupD, listD, DL.intD, reprD, absD, c1, startD, startS, putD, List.map, List.replicate, List.length, wipeD, List.set, List.getElem?_cons_zero, List.getElem?_cons_succ, List.cons_append, List.nil_append, List.append_nil, Nat.sub_self, Nat.reduceSub, Nat.reduceAdd, List.getElem?_nil, Bool.and_true, Bool.true_and, Bool.false_and, Bool.and_false, Bool.or_true, Bool.true_or, Bool.or_false, Bool.false_or, if_true, Bool.false_eq_true, if_false, true_and, and_true, Bool.true_xor, Bool.false_xor, at0, at1, at2, at3, at4, Option.some.injEq, exists_eq_left', Bool.not_true, true_or, or_true, Bool.not_false, id_eq, imp_self, implies_true, lfAll, lf])
local macro_rules | `(tactic| walk_at "kw") => `(tactic| simp (config := { maxSteps := 4000000 }) only [kw_any_flag, kw_any_not, kw_any_and, kw_any_or, kw_any_do, kw_any_go, kw_any_set, kw_any_clear, kw_flag_any, kw_flag_not, kw_flag_and, kw_flag_or, kw_flag_do, kw_flag_go, kw_flag_set, kw_flag_clear, kw_not_any, kw_not_flag, kw_not_and, kw_not_or, kw_not_do, kw_not_go, kw_not_set, kw_not_clear, kw_and_any, kw_and_flag, kw_and_not, kw_and_or, kw_and_do, kw_and_go, kw_and_set, kw_and_clear, kw_or_any, kw_or_flag, kw_or_not, kw_or_and, kw_or_do, kw_or_go, kw_or_set, kw_or_clear, kw_do_any, kw_do_flag, kw_do_not, kw_do_and, kw_do_or, kw_do_go, kw_do_set, kw_do_clear, kw_go_any, kw_go_flag, kw_go_not, kw_go_and, kw_go_or, kw_go_do, kw_go_set, kw_go_clear, kw_set_any, kw_set_flag, kw_set_not, kw_set_and, kw_set_or, kw_set_do, kw_set_go, kw_set_clear, kw_clear_any, kw_clear_flag, kw_clear_not, kw_clear_and, kw_clear_or, kw_clear_do, kw_clear_go, kw_clear_set, eq_self, decide_false, decide_true, Bool.false_eq_true, if_false, if_true, Bool.not_true, Bool.not_false, List.any_cons, List.any_nil, Bool.or_false, Bool.false_or, Bool.or_true, Bool.true_or, Bool.false_xor, Bool.true_xor, eqvS])
local macro_rules | `(tactic| walk_at "dv") => `(tactic| simp (config := { maxSteps := 4000000 }) only [tdSeq, tdSet, tdAsg, tdPar, tdPar3, tdLc, tdItVar, tdIt, tdEnum, tdRg1, tdRg2, tdFor, tdRet, tdRetVar, tdRetN, tdNext, tdIf, tdIfS, tdAnd, tdOr, tdNot, tdAndV, tdOrV, tdNotV, tdB, tdBin, tdChain, tdVar, tdC, tdLst, tdNil, tdCons, tdStar, tdTup, tdNeg, tdSl, tdO0, tdO1, tdRev, tdCall, tdCallS, tdCB, tdIsi, tdAppend, tdExtendA, tdAsgPop, tdPop, tdAppNotPop, tdParPop, tdSetIx, tdAug, eqD, inD, ixD, isN, addD, subD, mulD, modD, fdivD, ltD, leD, gtD, geD, lenD, tupD, listD, DL.intD, reprD, absD, c1, startD, startS, List.map, List.replicate, List.length, wipeD, List.set, List.getElem?_cons_zero, List.getElem?_cons_succ, List.cons_append, List.nil_append, List.append_nil, Nat.sub_self, Nat.reduceSub, Nat.reduceAdd, List.getElem?_nil, Bool.and_true, Bool.true_and, Bool.false_and, Bool.and_false, Bool.or_true, Bool.true_or, Bool.or_false, Bool.false_or, if_true, Bool.false_eq_true, if_false, true_and, and_true, Bool.true_xor, Bool.false_xor, at0, at1, at2, at3, at4, Option.some.injEq, exists_eq_left', Bool.not_true, true_or, or_true, Bool.not_false, id_eq, imp_self, implies_true, lfAll, lf])
def flS (names acts : List Str) (nm : Str) (fl md : List Str) (s6 s7 s8 s9 s10 : SD) : List SD := [.src, .d (dT (names.map dS)), .d (dT (acts.map dS)), .d (dS nm), .d (dT (fl.map dS)), .d (dT (md.map dS)), s6, s7, s8, s9, s10, .un]
def tbFK : TSd := (tdAppend 8 (tdTup (tdCons (tdVar 9) (tdCons (tdCallS 0 (tdCons (tdVar 4) (tdCons (tdC (.int 2)) tdNil)) (g_law_condition 5)) (tdCons (tdCallS 0 (tdCons (tdVar 2) (tdCons (tdVar 4) (tdCons (tdVar 5) tdNil))) g_law_deeds) tdNil)))))
def tbFI : TSd := (tdIfS (tdB (tdBin (gtD) (tdCallS 0 (tdCons (tdC (.int 3)) tdNil) g_law_pick) (tdC (.int 0)))) (tdAppend 8 (tdTup (tdCons (tdVar 9) (tdCons (tdTup (tdCons (tdC (.str "any")) tdNil)) (tdCons (tdCallS 0 (tdCons (tdVar 2) (tdCons (tdVar 4) (tdCons (tdVar 5) tdNil))) g_law_deeds) tdNil))))) tdNext)
def tbFN : TSd := (tdSeq (tdFor (tdRg1 (tdCallS 0 (tdCons (tdLst (tdCons (tdC (.int 1)) (tdCons (tdC (.int 1)) (tdCons (tdC (.int 2)) tdNil)))) tdNil) g_law_of)) (putD 10) tbFK) tbFI)
structure flOk (acts fl md : List Str) : Prop where
  pa : plainA acts
  a1 : 1 ≤ acts.length
  a3 : acts.length ≤ 3
  f0 : fl ≠ []
  fn : fl.Nodup
  f3 : fl.length ≤ 10
  m0 : md ≠ []
  m3 : md.length ≤ 10
theorem fk_go {E : DEnds} {names acts : List Str} {nm on : Str} {fl md : List Str} {s6 s7 : SD} {q : Addr} (h0 : flOk acts fl md) (hon : on ∈ names) : ∀ (xs : List D) (L : List Rl) (s10 : SD), (∀ x ∈ xs, lf x = true) → (∀ r ∈ L, r.right names acts fl md) → L.length + xs.length ≤ 100 →
    (∀ (L' : List Rl) s10, (∀ r ∈ L', r.right names acts fl md) → L'.length = L.length + xs.length → E.nx (flS names acts nm fl md s6 s7 (.own q (L'.map Rl.enc)) (.d (dS on)) s10)) →
    forGo (putD 10) tbFK E xs (flS names acts nm fl md s6 s7 (.own q (L.map Rl.enc)) (.d (dS on)) s10)
  | [], L, s10, _, hL, _, h => h L s10 hL rfl
  | x :: xs, L, s10, hx, hL, hl, h => by
    rw [List.length_cons] at hl
    refine putD_lf (hx x (by simp)) ?_
    suffices hs : ∀ E2 : DEnds, (∀ r : Rl, r.right names acts fl md → E2.nx (flS names acts nm fl md s6 s7 (.own q ((L ++ [r]).map Rl.enc)) (.d (dS on)) (.d x))) → tbFK E2 (flS names acts nm fl md s6 s7 (.own q (L.map Rl.enc)) (.d (dS on)) (.d x)) from hs _ fun r hr => by
      refine fk_go h0 hon xs (L ++ [r]) _ (fun y hy => hx y (List.mem_cons_of_mem _ hy)) (fun y hy => ?_) (by rw [List.length_append, List.length_singleton]; omega) fun L' s10 h1 h2 => h L' s10 h1 (by rw [h2, List.length_append, List.length_singleton, List.length_cons]; omega)
      rcases List.mem_append.mp hy with h1 | h1
      · exact hL y h1
      · obtain rfl := List.mem_singleton.mp h1
        exact hr
    intro E2 hE
    unfold tbFK flS
    unfold flS at hE
    have hf := h0.f3
    walk_at "dv"
    refine ⟨fl, 2, rfl, by decide, by decide, by omega, fun c c1 c2 c3 => ?_⟩
    refine ⟨acts, fl, md, rfl, h0.pa, h0.a1, h0.a3, h0.f0, h0.fn, h0.f3, h0.m0, h0.m3, fun ds hd => ?_⟩
    refine ⟨le_line (by simp), lt_line (by simp; omega), ?_⟩
    have := hE ⟨on, c, ds⟩ ⟨hon, c3, c1, by have : c.size + 1 ≤ 2 ^ 3 := c2; show c.size ≤ 7; omega, hd⟩
    rw [List.map_append] at this
    exact this
theorem fi_run {E : DEnds} {names acts : List Str} {nm on : Str} {fl md : List Str} {s6 s7 s10 : SD} {q : Addr} (h0 : flOk acts fl md) (hon : on ∈ names) {L : List Rl} (hL : ∀ r ∈ L, r.right names acts fl md) (hl : L.length ≤ 100)
    (h : ∀ (L' : List Rl), (∀ r ∈ L', r.right names acts fl md) → L'.length ≤ L.length + 1 → E.nx (flS names acts nm fl md s6 s7 (.own q (L'.map Rl.enc)) (.d (dS on)) s10)) :
    tbFI E (flS names acts nm fl md s6 s7 (.own q (L.map Rl.enc)) (.d (dS on)) s10) := by
  unfold tbFI flS
  walk_at "dv"
  refine ⟨3, rfl, by decide, fun k k0 k1 => ?_⟩
  walk_at "dv"
  by_cases hk : 0 < k
  · rw [decide_eq_true hk]
    refine Eq.mpr (if_pos rfl) ?_
    refine ⟨le_line (by simp), acts, fl, md, rfl, h0.pa, h0.a1, h0.a3, h0.f0, h0.fn, h0.f3, h0.m0, h0.m3, fun ds hd => ?_⟩
    refine ⟨le_line (by simp), lt_line (by simp; omega), ?_⟩
    have := h (L ++ [⟨on, .any, ds⟩]) (fun y hy => by
      rcases List.mem_append.mp hy with h1 | h1
      · exact hL y h1
      · obtain rfl := List.mem_singleton.mp h1
        exact ⟨hon, by simp [Cd.flags], by simp [Cd.high], by simp [Cd.size], hd⟩) (by simp)
    rw [List.map_append] at this
    exact this
  · rw [decide_eq_false hk]
    exact h L hL (by omega)
theorem fn_go {E : DEnds} {names acts : List Str} {nm : Str} {fl md : List Str} {s6 s7 : SD} {q : Addr} (h0 : flOk acts fl md) : ∀ (ns : List Str) (L : List Rl) (s9 s10 : SD), (∀ n ∈ ns, n ∈ names) → (∀ r ∈ L, r.right names acts fl md) → L.length + 3 * ns.length ≤ 90 →
    (∀ (L' : List Rl) s9 s10, (∀ r ∈ L', r.right names acts fl md) → L'.length ≤ L.length + 3 * ns.length → E.nx (flS names acts nm fl md s6 s7 (.own q (L'.map Rl.enc)) s9 s10)) →
    forGo (putD 9) tbFN E (ns.map dS) (flS names acts nm fl md s6 s7 (.own q (L.map Rl.enc)) s9 s10)
  | [], L, s9, s10, _, hL, _, h => h L s9 s10 hL (by simp)
  | n :: ns, L, s9, s10, hn, hL, hl, h => by
    rw [List.length_cons] at hl
    have hnn := hn n (by simp)
    refine putD_lf rfl ?_
    suffices hs : ∀ E2 : DEnds, (∀ (L' : List Rl) s10, (∀ r ∈ L', r.right names acts fl md) → L'.length ≤ L.length + 3 → E2.nx (flS names acts nm fl md s6 s7 (.own q (L'.map Rl.enc)) (.d (dS n)) s10)) → tbFN E2 (flS names acts nm fl md s6 s7 (.own q (L.map Rl.enc)) (.d (dS n)) s10) from hs _ fun L' s10 h1 h2 => by
      refine fn_go h0 ns L' _ _ (fun y hy => hn y (List.mem_cons_of_mem _ hy)) h1 (by omega) fun L2 s9 s10 h3 h4 => h L2 s9 s10 h3 (by rw [List.length_cons]; omega)
    intro E2 hE
    unfold tbFN
    generalize hK : tbFK = K
    generalize hI : tbFI = I
    unfold flS
    walk_at "dv"
    refine ⟨le_line (by simp), _, _, rfl, rfl, by simp, by simp, fun x hx => ?_⟩
    obtain ⟨k, hk1, hk, rfl⟩ : ∃ k : Nat, 1 ≤ k ∧ k ≤ 2 ∧ x = dI k := by
      simp at hx
      rcases hx with rfl | rfl
      · exact ⟨1, by omega, by omega, rfl⟩
      · exact ⟨2, by omega, by omega, rfl⟩
    walk_at "dv"
    refine ⟨by omega, by omega, ?_⟩
    have hrl : (rgD 0 (k : Int).toNat).length = k := by simp [rgD]
    subst hK hI
    refine fk_go h0 hnn _ L _ (fun x hx => by obtain ⟨i, _, rfl⟩ := rg_mem hx; rfl) hL (by rw [hrl]; omega) fun L' s10 h1 h2 => ?_
    rw [hrl] at h2
    exact fi_run h0 hnn h1 (by omega) fun L2 h3 h4 => hE L2 s10 h3 (by omega)
def tbFM : TSd := (tdSeq (tdSet 8 (tdLst tdNil)) (tdSeq (tdFor (tdItVar 1) (putD 9) tbFN)
    (tdAppend 6 (tdTup (tdCons (tdVar 7) (tdCons (tdBin (eqD false) (tdCallS 0 (tdCons (tdC (.int 2)) tdNil) g_law_pick) (tdC (.int 0))) (tdCons (tdCB (tdCons (tdVar 8) tdNil) (c1 tupD)) tdNil)))))))
def mdOk (names acts fl md : List Str) (m : Md) : Prop := m.rules.length ≤ 9 ∧ ∀ r ∈ m.rules, r.right names acts fl md
theorem fm_go {E : DEnds} {names acts : List Str} {nm : Str} {fl md : List Str} {q : Addr} (h0 : flOk acts fl md) (hn : names.length ≤ 3) : ∀ (ms : List Str) (M : List Md) (s7 s8 s9 s10 : SD), (∀ m ∈ M, mdOk names acts fl md m) → M.length + ms.length ≤ 90 →
    (∀ (M' : List Md) s7 s8 s9 s10, (∀ m ∈ M', mdOk names acts fl md m) → M'.map Md.name = M.map Md.name ++ ms → E.nx (flS names acts nm fl md (.own q (M'.map Md.enc)) s7 s8 s9 s10)) →
    forGo (putD 7) tbFM E (ms.map dS) (flS names acts nm fl md (.own q (M.map Md.enc)) s7 s8 s9 s10)
  | [], M, s7, s8, s9, s10, hM, _, h => h M s7 s8 s9 s10 hM (by simp)
  | m :: ms, M, s7, s8, s9, s10, hM, hl, h => by
    rw [List.length_cons] at hl
    refine putD_lf rfl ?_
    suffices hs : ∀ E2 : DEnds, (∀ (x : Md) s8 s9 s10, mdOk names acts fl md x → x.name = m → E2.nx (flS names acts nm fl md (.own q ((M ++ [x]).map Md.enc)) (.d (dS m)) s8 s9 s10)) → tbFM E2 (flS names acts nm fl md (.own q (M.map Md.enc)) (.d (dS m)) s8 s9 s10) from hs _ fun x s8 s9 s10 h1 h2 => by
      refine fm_go h0 hn ms (M ++ [x]) _ _ _ _ (fun y hy => ?_) (by rw [List.length_append, List.length_singleton]; omega) fun M' s7 s8 s9 s10 h3 h4 => h M' s7 s8 s9 s10 h3 (by rw [h4, List.map_append, List.map_singleton, h2, List.append_assoc]; rfl)
      rcases List.mem_append.mp hy with h3 | h3
      · exact hM y h3
      · obtain rfl := List.mem_singleton.mp h3
        exact h1
    intro E2 hE
    unfold tbFM
    generalize hN : tbFN = N
    unfold flS
    walk_at "dv"
    refine ⟨le_line (by simp), putD_own rfl fun r => ?_⟩
    walk_at "dv"
    subst hN
    refine fn_go (s6 := .own q (M.map Md.enc)) h0 names [] _ _ (fun n hn => hn) (by simp) (by simp; omega) fun L s9 s10 h1 h2 => ?_
    unfold flS
    walk_at "dv"
    refine ⟨2, rfl, by decide, fun k k0 k1 => ?_⟩
    walk_at "dv"
    refine ⟨le_line (by simp), lt_line (by simp; omega), ?_⟩
    have := hE ⟨m, decide (k = 0), L⟩ (.own r (L.map Rl.enc)) s9 s10 ⟨by show L.length ≤ 9; simp at h2; omega, h1⟩ rfl
    rw [List.map_append] at this
    exact ⟨.inr (lf_rules L), this⟩
theorem tk_dec {s : Str} (h : decide (s.length ≤ 12) = true) : tk s := show s.length ≤ 12 from of_decide_eq_true h
theorem take_take {α : Type} {f : α → D} {xs : List α} {k : Int} (h : 0 ≤ k) : DL.cutD (xs.map f) none (some (1 + k)) = (xs.take (1 + k).toNat).map f := by
  rw [cut_take' (by omega), List.map_take]
theorem sem_law_flagged : ∀ ds R, g_law_flagged ds R → t_law_flagged { nx := fun _ => R .none false, rt := R } (startS N_law_flagged ds) := by
  rintro _ R ⟨names, acts, nm, rfl, hp, ha1, ha3, hnk, hn, hnm, r⟩
  unfold t_law_flagged
  generalize hM : tbFM = M
  have hM' : (tdSeq (tdSet 8 (tdLst tdNil))
    (tdSeq (tdFor (tdItVar 1) (putD 9) (tdSeq (tdFor (tdRg1 (tdCallS 0 (tdCons (tdLst (tdCons (tdC (.int 1)) (tdCons (tdC (.int 1)) (tdCons (tdC (.int 2)) tdNil)))) tdNil) g_law_of)) (putD 10) (tdAppend 8 (tdTup (tdCons (tdVar 9) (tdCons (tdCallS 0 (tdCons (tdVar 4) (tdCons (tdC (.int 2)) tdNil)) (g_law_condition 5)) (tdCons (tdCallS 0 (tdCons (tdVar 2) (tdCons (tdVar 4) (tdCons (tdVar 5) tdNil))) g_law_deeds) tdNil))))))
    (tdIfS (tdB (tdBin (gtD) (tdCallS 0 (tdCons (tdC (.int 3)) tdNil) g_law_pick) (tdC (.int 0)))) (tdAppend 8 (tdTup (tdCons (tdVar 9) (tdCons (tdTup (tdCons (tdC (.str "any")) tdNil)) (tdCons (tdCallS 0 (tdCons (tdVar 2) (tdCons (tdVar 4) (tdCons (tdVar 5) tdNil))) g_law_deeds) tdNil))))) tdNext)))
    (tdAppend 6 (tdTup (tdCons (tdVar 7) (tdCons (tdBin (eqD false) (tdCallS 0 (tdCons (tdC (.int 2)) tdNil) g_law_pick) (tdC (.int 0))) (tdCons (tdCB (tdCons (tdVar 8) tdNil) (c1 tupD)) tdNil))))))) = M := hM
  rw [hM']
  walk_at "dv"
  refine ⟨le_line (by simp), _, _, rfl, rfl, by simp, fun ys hy => ?_⟩
  obtain ⟨fs, hfs, rfl⟩ := perm_map_inv (f := dS) hy [("s" : Str), "t", "go2"] rfl
  refine ⟨3, rfl, by decide, fun k k0 k1 => ?_⟩
  have k1 : k < 3 := k1
  obtain ⟨i, rfl⟩ : ∃ i : Nat, k = i := ⟨k.toNat, by omega⟩
  walk_at "dv"
  rw [take_take k0]
  have hfl : (1 + (i : Int)).toNat = 1 + i := by omega
  rw [hfl]
  have hfsl : fs.length = 3 := hfs.length_eq
  generalize hflv : fs.take (1 + i) = fl
  have hll : fl.length = 1 + i := by rw [← hflv, List.length_take]; omega
  have hfln : fl.Nodup := by
    rw [← hflv]
    exact (hfs.nodup_iff.mpr (by decide)).sublist (List.take_sublist _ _)
  have hflt : ∀ s ∈ fl, tk s := fun s hs => by
    rw [← hflv] at hs
    have := hfs.mem_iff.mp (List.mem_of_mem_take hs)
    simp at this
    rcases this with rfl | rfl | rfl <;> exact tk_dec (by decide)
  refine putD_lf (lf_strs _) ?_
  walk_at "dv"
  refine ⟨le_line (by simp), 3, rfl, by decide, fun k2 k20 k21 => ?_⟩
  have k21 : k2 < 3 := k21
  obtain ⟨j, rfl⟩ : ∃ j : Nat, k2 = j := ⟨k2.toNat, by omega⟩
  walk_at "dv"
  have e : DL.cutD [PyData.str "m", PyData.str "n", PyData.str "o"] none (some (1 + (j : Int))) = ([("m" : Str), "n", "o"].take (1 + (j : Int)).toNat).map dS := take_take (f := dS) (xs := [("m" : Str), "n", "o"]) k20
  rw [e]
  have hml : (1 + (j : Int)).toNat = 1 + j := by omega
  rw [hml]
  generalize hmdv : [("m" : Str), "n", "o"].take (1 + j) = md
  have hmll : md.length = 1 + j := by rw [← hmdv, List.length_take]; simp; omega
  have hmn : md.Nodup := by
    rw [← hmdv]
    exact (show [("m" : Str), "n", "o"].Nodup by decide).sublist (List.take_sublist _ _)
  have hmt : ∀ s ∈ md, tk s := fun s hs => by
    rw [← hmdv] at hs
    have := List.mem_of_mem_take hs
    simp at this
    rcases this with rfl | rfl | rfl <;> exact tk_dec (by decide)
  refine ⟨le_line (by simp), putD_lf (lf_strs _) (putD_own rfl fun q => ?_)⟩
  have h0 : flOk acts fl md := ⟨hp, ha1, ha3, fun z => by rw [z] at hll; simp at hll; omega, hfln, by omega, fun z => by rw [z] at hmll; simp at hmll; omega, by omega⟩
  walk_at "dv"
  subst hM
  refine fm_go h0 hn md [] _ _ _ _ (by simp) (by simp; omega) fun M s7 s8 s9 s10 h1 h2 => ?_
  unfold flS
  walk_at "dv"
  refine ⟨acts.length, 2, by simp, ha1, ha3, by decide, fun ys hy hyl => ?_⟩
  refine ⟨acts.length, ys, by simp, ha1, ha3, by omega, hy, fun zs hz hzl => ?_⟩
  refine ⟨acts, zs, rfl, hp, by omega, hz, fun ts ht htl => ?_⟩
  refine putD_lf (lf_strs _) ?_
  walk_at "dv"
  refine ⟨le_line (by simp), ?_⟩
  have h2 : M.map Md.name = md := h2
  have hMl : M.length = md.length := by rw [← h2, List.length_map]
  refine r ⟨"program", nm, ts, fl, M⟩ ⟨tk_dec (s := "program") (by decide), hnm, ?_, ht, hfln, ?_, h0.f0, hflt, ?_, ?_, ?_, ?_, ?_⟩
  · show ts.length ≤ 10; omega
  · show fl.length ≤ 3; omega
  · show (M.map (·.name)).Nodup
    exact (show M.map (fun x => x.name) = md from h2) ▸ hmn
  · show M.length ≤ 3; omega
  · intro z
    have z : M = [] := z
    rw [z] at hMl
    simp at hMl
    omega
  · intro m hm
    refine ⟨hmt _ ?_, (h1 m hm).1⟩
    rw [← h2]
    exact List.mem_map.mpr ⟨m, hm, rfl⟩
  · intro m hm x hx
    have := (h1 m hm).2 x hx
    rw [← h2] at this
    exact this
theorem len_law_flagged : ∀ ds R, g_law_flagged ds R → ds.length + 1 = p_law_flagged.length := by rintro _ R ⟨_, _, _, rfl, _⟩; rfl
end Lw

set_option Elab.async false
set_option linter.all false
set_option maxRecDepth 100000
set_option maxHeartbeats 4000000
namespace Lw
open PySem PySem.Spec PyProof.Rows L2 DL
local macro_rules | `(tactic| walk_at "dl") => `(tactic| simp (config := { maxSteps := 4000000 }) only [tdSeq, tdSet, tdAsg, tdPar, tdPar3, tdLc, tdItVar, tdIt, tdEnum, tdRg1, tdRg2, tdFor, tdRet, tdRetVar, tdRetN, tdNext, tdIf, tdIfS, tdAnd, tdOr, tdNot, tdAndV, tdOrV, tdNotV, tdB, tdBin, tdChain, tdVar, tdC, tdLst, tdNil, tdCons, tdStar, tdTup, tdNeg, tdSl, tdO0, tdO1, tdRev, tdCall, tdCallS, tdCB, tdIsi, tdAppend, tdExtendA, tdAsgPop, tdPop, tdAppNotPop, tdParPop, tdSetIx, tdAug, eqD, inD, ixD, isN, addD, subD, mulD, modD, fdivD, ltD, leD, gtD, geD, lenD, tupD, listD, DL.intD, reprD, absD, c1, startD, startS, putD, List.map, List.replicate, List.length, wipeD, List.set, List.getElem?_cons_zero, List.getElem?_cons_succ, List.cons_append, List.nil_append, List.append_nil, Nat.sub_self, Nat.reduceSub, Nat.reduceAdd, List.getElem?_nil, Bool.and_true, Bool.true_and, Bool.false_and, Bool.and_false, Bool.or_true, Bool.true_or, Bool.or_false, Bool.false_or, if_true, Bool.false_eq_true, if_false, true_and, and_true, Bool.true_xor, Bool.false_xor, at0, at1, at2, at3, at4, Option.some.injEq, exists_eq_left', Bool.not_true, true_or, or_true, Bool.not_false, id_eq, imp_self, implies_true, lfAll, lf])
local macro_rules | `(tactic| walk_at "kw") => `(tactic| simp (config := { maxSteps := 4000000 }) only [kw_any_flag, kw_any_not, kw_any_and, kw_any_or, kw_any_do, kw_any_go, kw_any_set, kw_any_clear, kw_flag_any, kw_flag_not, kw_flag_and, kw_flag_or, kw_flag_do, kw_flag_go, kw_flag_set, kw_flag_clear, kw_not_any, kw_not_flag, kw_not_and, kw_not_or, kw_not_do, kw_not_go, kw_not_set, kw_not_clear, kw_and_any, kw_and_flag, kw_and_not, kw_and_or, kw_and_do, kw_and_go, kw_and_set, kw_and_clear, kw_or_any, kw_or_flag, kw_or_not, kw_or_and, kw_or_do, kw_or_go, kw_or_set, kw_or_clear, kw_do_any, kw_do_flag, kw_do_not, kw_do_and, kw_do_or, kw_do_go, kw_do_set, kw_do_clear, kw_go_any, kw_go_flag, kw_go_not, kw_go_and, kw_go_or, kw_go_do, kw_go_set, kw_go_clear, kw_set_any, kw_set_flag, kw_set_not, kw_set_and, kw_set_or, kw_set_do, kw_set_go, kw_set_clear, kw_clear_any, kw_clear_flag, kw_clear_not, kw_clear_and, kw_clear_or, kw_clear_do, kw_clear_go, kw_clear_set, eq_self, decide_false, decide_true, Bool.false_eq_true, if_false, if_true, Bool.not_true, Bool.not_false, List.any_cons, List.any_nil, Bool.or_false, Bool.false_or, Bool.or_true, Bool.true_or, Bool.false_xor, Bool.true_xor, eqvS])
local macro_rules | `(tactic| walk_at "dv") => `(tactic| simp (config := { maxSteps := 4000000 }) only [tdSeq, tdSet, tdAsg, tdPar, tdPar3, tdLc, tdItVar, tdIt, tdEnum, tdRg1, tdRg2, tdFor, tdRet, tdRetVar, tdRetN, tdNext, tdIf, tdIfS, tdAnd, tdOr, tdNot, tdAndV, tdOrV, tdNotV, tdB, tdBin, tdChain, tdVar, tdC, tdLst, tdNil, tdCons, tdStar, tdTup, tdNeg, tdSl, tdO0, tdO1, tdRev, tdCall, tdCallS, tdCB, tdIsi, tdAppend, tdExtendA, tdAsgPop, tdPop, tdAppNotPop, tdParPop, tdSetIx, tdAug, eqD, inD, ixD, isN, addD, subD, mulD, modD, fdivD, ltD, leD, gtD, geD, lenD, tupD, listD, DL.intD, reprD, absD, c1, startD, startS, List.map, List.replicate, List.length, wipeD, List.set, List.getElem?_cons_zero, List.getElem?_cons_succ, List.cons_append, List.nil_append, List.append_nil, Nat.sub_self, Nat.reduceSub, Nat.reduceAdd, List.getElem?_nil, Bool.and_true, Bool.true_and, Bool.false_and, Bool.and_false, Bool.or_true, Bool.true_or, Bool.or_false, Bool.false_or, if_true, Bool.false_eq_true, if_false, true_and, and_true, Bool.true_xor, Bool.false_xor, at0, at1, at2, at3, at4, Option.some.injEq, exists_eq_left', Bool.not_true, true_or, or_true, Bool.not_false, id_eq, imp_self, implies_true, lfAll, lf])
def tBn2 : TSd := (tdSeq (tdSet 15 (tdBin addD (tdSl (tdBin ixD (tdVar 6) (tdVar 8)) tdO0 (tdO1 (tdC (.int 2)))) (tdTup (tdCons (tdBin addD (tdBin addD (tdSl (tdVar 9) tdO0 (tdO1 (tdVar 10))) (tdTup (tdCons (tdTup (tdCons (tdVar 11) (tdCons (tdVar 12) (tdCons (tdVar 13) tdNil)))) tdNil))) (tdSl (tdVar 9) (tdO1 (tdBin addD (tdVar 10) (tdC (.int 1)))) tdO0)) tdNil))))
    (tdRet (tdTup (tdCons (tdVar 2) (tdCons (tdVar 3) (tdCons (tdVar 4) (tdCons (tdVar 5) (tdCons (tdBin addD (tdBin addD (tdSl (tdVar 6) tdO0 (tdO1 (tdVar 8))) (tdTup (tdCons (tdVar 15) tdNil))) (tdSl (tdVar 6) (tdO1 (tdBin addD (tdVar 8) (tdC (.int 1)))) tdO0)) tdNil))))))))
theorem Pg.bd.mono {p : Pg} {n : Nat} (h : p.bd n) : p.bd (n + 1) :=
  ⟨h.word, h.name, by have := h.ns; omega, h.starts, by have := h.nf; omega, h.ft, by have := h.nm; omega, h.m0, h.mt, h.on, fun m hm r hr => by
    obtain ⟨a, b, c⟩ := h.c m hm r hr
    exact ⟨by omega, by omega, c⟩, fun m hm r hr => by
    obtain ⟨a, b⟩ := h.d m hm r hr
    exact ⟨by omega, b⟩⟩
theorem mem_put {α : Type} {xs : List α} {k : Nat} {y z : α} (h : z ∈ xs.take k ++ [y] ++ xs.drop (k + 1)) : z = y ∨ z ∈ xs := by
  rw [List.mem_append, List.mem_append, List.mem_singleton] at h
  rcases h with (h | h) | h
  · exact .inr (List.mem_of_mem_take h)
  · exact .inl h
  · exact .inr (List.mem_of_mem_drop h)
theorem len_put {α : Type} {xs : List α} {k : Nat} {y : α} (h : k < xs.length) : (xs.take k ++ [y] ++ xs.drop (k + 1)).length = xs.length := by
  simp; omega
theorem bent_tail {R : D → Bool → Prop} {p : Pg} {n i r : Nat} {m : Md} (hn : n ≤ 1) (hp : p.bd n) (hi : p.modes[i]? = some m) (hr : r < m.rules.length) {on : Str} {c : Cd} {ds : List Dd} (hon : tk on) (hc : c.high ≤ 3 + 2 * (n + 1) ∧ c.size ≤ 7 + 4 * (n + 1) ∧ ∀ s ∈ c.flags, tk s) (hd : ds.length ≤ 6 + 2 * (n + 1) ∧ ∀ d ∈ ds, d.ok)
    (hR : ∀ p' : Pg, p'.bd (n + 1) → R p'.enc false) (s1 s7 s14 : SD) :
    tBn2 { nx := fun _ => R .none false, rt := R } [.src, s1, .d (dS p.word), .d (dS p.name), .d (dT (p.starts.map dS)), .d (dT (p.flags.map dS)), .d (dT (p.modes.map Md.enc)), s7, .d (.int (i : Nat)), .d (dT (m.rules.map Rl.enc)), .d (.int (r : Nat)), .d (dS on), .d c.enc, .d (dT (ds.map Dd.enc)), s14, .un] := by
  have him : m ∈ p.modes := List.mem_of_getElem? hi
  have hil : i < p.modes.length := (List.getElem?_eq_some_iff.mp hi).1
  have hml := (hp.mt m him).2
  have hnm := hp.nm
  unfold tBn2
  walk_at "dv"
  refine ⟨m.enc, at_nat (by rw [List.getElem?_map, hi]; rfl), ?_⟩
  simp only [Md.enc]
  have e2 : DL.cutD [dS m.name, PyData.bool m.yes, dT (m.rules.map Rl.enc)] none (some 2) = [dS m.name, .bool m.yes] := cut_take (k := 2)
  have e3 : DL.cutD (m.rules.map Rl.enc) none (some (r : Int)) = (m.rules.take r).map Rl.enc := by rw [cut_take, List.map_take]
  have e4 : DL.cutD (m.rules.map Rl.enc) (some ((r : Int) + 1)) none = (m.rules.drop (r + 1)).map Rl.enc := by
    have := cut_drop (xs := m.rules.map Rl.enc) (k := r + 1)
    rw [← List.map_drop] at this
    exact this
  rw [e2, e3, e4]
  have hx : (m.rules.take r).map Rl.enc ++ [PyData.tuple [dS on, c.enc, dT (ds.map Dd.enc)]] ++ (m.rules.drop (r + 1)).map Rl.enc = (m.rules.take r ++ [(⟨on, c, ds⟩ : Rl)] ++ m.rules.drop (r + 1)).map Rl.enc := by
    rw [List.map_append, List.map_append]; rfl
  rw [hx]
  refine ⟨le_line (by simp), le_line (by simp), le_line (by simp; omega), le_line (by simp; omega), le_line (by simp), le_line (by simp), ?_⟩
  have hrm : ∀ x ∈ m.rules.take r ++ [(⟨on, c, ds⟩ : Rl)] ++ m.rules.drop (r + 1), x = ⟨on, c, ds⟩ ∨ x ∈ m.rules := fun x h => mem_put h
  have hrl : (m.rules.take r ++ [(⟨on, c, ds⟩ : Rl)] ++ m.rules.drop (r + 1)).length = m.rules.length := len_put hr
  generalize m.rules.take r ++ [(⟨on, c, ds⟩ : Rl)] ++ m.rules.drop (r + 1) = rs at hrm hrl ⊢
  refine putD_lf (x := Md.enc ⟨m.name, m.yes, rs⟩) (lf_encM ⟨m.name, m.yes, rs⟩) ?_
  walk_at "dv"
  have e5 : DL.cutD (p.modes.map Md.enc) none (some (i : Int)) = (p.modes.take i).map Md.enc := by rw [cut_take, List.map_take]
  have e6 : DL.cutD (p.modes.map Md.enc) (some ((i : Int) + 1)) none = (p.modes.drop (i + 1)).map Md.enc := by
    have := cut_drop (xs := p.modes.map Md.enc) (k := i + 1)
    rw [← List.map_drop] at this
    exact this
  rw [e5, e6]
  have hy : (p.modes.take i).map Md.enc ++ [Md.enc ⟨m.name, m.yes, rs⟩] ++ (p.modes.drop (i + 1)).map Md.enc = (p.modes.take i ++ [(⟨m.name, m.yes, rs⟩ : Md)] ++ p.modes.drop (i + 1)).map Md.enc := by
    rw [List.map_append, List.map_append]; rfl
  rw [hy]
  refine ⟨le_line (by simp), le_line (by simp; omega), le_line (by simp; omega), le_line (by simp), ?_⟩
  have hmm : ∀ x ∈ p.modes.take i ++ [(⟨m.name, m.yes, rs⟩ : Md)] ++ p.modes.drop (i + 1), x = ⟨m.name, m.yes, rs⟩ ∨ x ∈ p.modes := fun x h => mem_put h
  have hmll : (p.modes.take i ++ [(⟨m.name, m.yes, rs⟩ : Md)] ++ p.modes.drop (i + 1)).length = p.modes.length := len_put hil
  generalize p.modes.take i ++ [(⟨m.name, m.yes, rs⟩ : Md)] ++ p.modes.drop (i + 1) = ms at hmm hmll ⊢
  have hq := hp.mono
  have old : ∀ x ∈ ms, ∀ r ∈ x.rules, r = ⟨on, c, ds⟩ ∨ ∃ y ∈ p.modes, r ∈ y.rules := fun x hx r hr => by
    rcases hmm x hx with rfl | h
    · rcases hrm r hr with h | h
      · exact .inl h
      · exact .inr ⟨m, him, h⟩
    · exact .inr ⟨x, h, hr⟩
  refine hR ⟨p.word, p.name, p.starts, p.flags, ms⟩ ⟨hq.word, hq.name, hq.ns, hq.starts, hq.nf, hq.ft, ?_, ?_, fun x hx => ?_, fun x hx r hr => ?_, fun x hx r hr => ?_, fun x hx r hr => ?_⟩
  · show ms.length ≤ _; omega
  · intro z
    have z : ms = [] := z
    rw [z] at hmll
    simp at hmll
    omega
  · rcases hmm x hx with rfl | h
    · exact ⟨(hp.mt m him).1, by show rs.length ≤ 9; omega⟩
    · exact hp.mt x h
  · rcases old x hx r hr with rfl | ⟨y, hy, h⟩
    · exact hon
    · exact hp.on y hy r h
  · rcases old x hx r hr with rfl | ⟨y, hy, h⟩
    · exact hc
    · exact hq.c y hy r h
  · rcases old x hx r hr with rfl | ⟨y, hy, h⟩
    · exact hd
    · exact hq.d y hy r h
end Lw

set_option Elab.async false
set_option linter.all false
set_option maxRecDepth 100000
set_option maxHeartbeats 4000000
namespace Lw
open PySem PySem.Spec PyProof.Rows L2 DL
local macro_rules | `(tactic| walk_at "dl") => `(tactic| simp (config := { maxSteps := 4000000 }) only [tdSeq, tdSet, tdAsg, tdPar, tdPar3, tdLc, tdItVar, tdIt, tdEnum, tdRg1, tdRg2, tdFor, tdRet, tdRetVar, tdRetN, tdNext, tdIf, tdIfS, tdAnd, tdOr, tdNot, tdAndV, tdOrV, tdNotV, tdB, tdBin, tdChain, tdVar, tdC, tdLst, tdNil, tdCons, tdStar, tdTup, tdNeg, tdSl, tdO0, tdO1, tdRev, tdCall, tdCallS, tdCB, tdIsi, tdAppend, tdExtendA, tdAsgPop, tdPop, tdAppNotPop, tdParPop, tdSetIx, tdAug, eqD, inD, ixD, isN, addD, subD, mulD, modD, fdivD, ltD, leD, gtD, geD, lenD, tupD, listD, DL.intD, reprD, absD, c1, startD, startS, putD, List.map, List.replicate, List.length, wipeD, List.set, List.getElem?_cons_zero, List.getElem?_cons_succ, List.cons_append, List.nil_append, List.append_nil, Nat.sub_self, Nat.reduceSub, Nat.reduceAdd, List.getElem?_nil, Bool.and_true, Bool.true_and, Bool.false_and, Bool.and_false, Bool.or_true, Bool.true_or, Bool.or_false, Bool.false_or, if_true, Bool.false_eq_true, if_false, true_and, and_true, Bool.true_xor, Bool.false_xor, at0, at1, at2, at3, at4, Option.some.injEq, exists_eq_left', Bool.not_true, true_or, or_true, Bool.not_false, id_eq, imp_self, implies_true, lfAll, lf])
local macro_rules | `(tactic| walk_at "kw") => `(tactic| simp (config := { maxSteps := 4000000 }) only [kw_any_flag, kw_any_not, kw_any_and, kw_any_or, kw_any_do, kw_any_go, kw_any_set, kw_any_clear, kw_flag_any, kw_flag_not, kw_flag_and, kw_flag_or, kw_flag_do, kw_flag_go, kw_flag_set, kw_flag_clear, kw_not_any, kw_not_flag, kw_not_and, kw_not_or, kw_not_do, kw_not_go, kw_not_set, kw_not_clear, kw_and_any, kw_and_flag, kw_and_not, kw_and_or, kw_and_do, kw_and_go, kw_and_set, kw_and_clear, kw_or_any, kw_or_flag, kw_or_not, kw_or_and, kw_or_do, kw_or_go, kw_or_set, kw_or_clear, kw_do_any, kw_do_flag, kw_do_not, kw_do_and, kw_do_or, kw_do_go, kw_do_set, kw_do_clear, kw_go_any, kw_go_flag, kw_go_not, kw_go_and, kw_go_or, kw_go_do, kw_go_set, kw_go_clear, kw_set_any, kw_set_flag, kw_set_not, kw_set_and, kw_set_or, kw_set_do, kw_set_go, kw_set_clear, kw_clear_any, kw_clear_flag, kw_clear_not, kw_clear_and, kw_clear_or, kw_clear_do, kw_clear_go, kw_clear_set, eq_self, decide_false, decide_true, Bool.false_eq_true, if_false, if_true, Bool.not_true, Bool.not_false, List.any_cons, List.any_nil, Bool.or_false, Bool.false_or, Bool.or_true, Bool.true_or, Bool.false_xor, Bool.true_xor, eqvS])
local macro_rules | `(tactic| walk_at "dv") => `(tactic| simp (config := { maxSteps := 4000000 }) only [tdSeq, tdSet, tdAsg, tdPar, tdPar3, tdLc, tdItVar, tdIt, tdEnum, tdRg1, tdRg2, tdFor, tdRet, tdRetVar, tdRetN, tdNext, tdIf, tdIfS, tdAnd, tdOr, tdNot, tdAndV, tdOrV, tdNotV, tdB, tdBin, tdChain, tdVar, tdC, tdLst, tdNil, tdCons, tdStar, tdTup, tdNeg, tdSl, tdO0, tdO1, tdRev, tdCall, tdCallS, tdCB, tdIsi, tdAppend, tdExtendA, tdAsgPop, tdPop, tdAppNotPop, tdParPop, tdSetIx, tdAug, eqD, inD, ixD, isN, addD, subD, mulD, modD, fdivD, ltD, leD, gtD, geD, lenD, tupD, listD, DL.intD, reprD, absD, c1, startD, startS, List.map, List.replicate, List.length, wipeD, List.set, List.getElem?_cons_zero, List.getElem?_cons_succ, List.cons_append, List.nil_append, List.append_nil, Nat.sub_self, Nat.reduceSub, Nat.reduceAdd, List.getElem?_nil, Bool.and_true, Bool.true_and, Bool.false_and, Bool.and_false, Bool.or_true, Bool.true_or, Bool.or_false, Bool.false_or, if_true, Bool.false_eq_true, if_false, true_and, and_true, Bool.true_xor, Bool.false_xor, at0, at1, at2, at3, at4, Option.some.injEq, exists_eq_left', Bool.not_true, true_or, or_true, Bool.not_false, id_eq, imp_self, implies_true, lfAll, lf])
def tBnO : TSd := (tdSet 14 (tdLst (tdCons (tdTup (tdCons (tdC (.str "do")) (tdCons (tdTup (tdCons (tdC (.str "x")) (tdCons (tdC (.str "zz-")) tdNil))) tdNil))) (tdCons (tdTup (tdCons (tdC (.str "set")) (tdCons (tdC (.str "zz")) tdNil))) (tdCons (tdTup (tdCons (tdC (.str "clear")) (tdCons (tdBin ixD (tdVar 5) (tdC (.int 0))) tdNil))) (tdCons (tdTup (tdCons (tdC (.str "go")) (tdCons (tdC (.str "zz")) tdNil))) (tdCons (tdTup (tdCons (tdC (.str "go")) (tdCons (tdBin ixD (tdBin ixD (tdVar 6) (tdC (.int 0))) (tdC (.int 0))) tdNil))) (tdCons (tdTup (tdCons (tdC (.str "do")) (tdCons (tdTup (tdCons (tdC (.str "x")) tdNil)) tdNil))) tdNil))))))))
def tBnI : TSd := (tdIfS (tdB (tdBin (eqD false) (tdVar 7) (tdC (.int 4)))) (tdSet 11 (tdC (.str "zz"))) (tdIfS (tdB (tdBin (eqD false) (tdVar 7) (tdC (.int 5)))) (tdSet 12 (tdTup (tdCons (tdC (.str "and")) (tdCons (tdVar 12) (tdCons (tdTup (tdCons (tdC (.str "not")) (tdCons (tdTup (tdCons (tdC (.str "flag")) (tdCons (tdCallS 0 (tdCons (tdLst (tdCons (tdC (.str "zz")) (tdCons (tdBin ixD (tdVar 5) (tdC (.int 0))) tdNil))) tdNil) g_law_of) tdNil))) tdNil))) tdNil))))) (tdIfS (tdB (tdBin (ltD) (tdVar 7) (tdC (.int 9)))) (tdSet 13 (tdBin addD (tdVar 13) (tdTup (tdCons (tdCallS 0 (tdCons (tdVar 14) tdNil) g_law_of) tdNil)))) (tdSet 13 (tdBin addD (tdBin addD (tdTup (tdCons (tdCallS 0 (tdCons (tdVar 14) tdNil) g_law_of) tdNil)) (tdVar 13)) (tdTup (tdCons (tdCallS 0 (tdCons (tdVar 14) tdNil) g_law_of) tdNil)))))))
theorem lt1_dec {s : Str} (h : decide (s.cps.toList ≠ [] ∧ s.length ≤ 12) = true) : lt1 s := show s.cps.toList ≠ [] ∧ s.length ≤ 12 from of_decide_eq_true h
def oddL (f0 m0 : Str) : List Dd := [.run ["x", "zz-"], .set "zz", .clear f0, .go "zz", .go m0, .run ["x"]]
theorem odd_ok {f0 m0 : Str} (hf : tk f0) (hm : tk m0) : ∀ d ∈ oddL f0 m0, d.ok := fun d hd => by
  unfold oddL at hd
  simp at hd
  rcases hd with rfl | rfl | rfl | rfl | rfl | rfl
  · exact ⟨by simp, fun s hs => by simp at hs; rcases hs with rfl | rfl <;> exact lt1_dec (by decide)⟩
  · exact tk_dec (s := "zz") (by decide)
  · exact hf
  · exact tk_dec (s := "zz") (by decide)
  · exact hm
  · exact ⟨by simp, fun s hs => by simp at hs; rcases hs with rfl <;> exact lt1_dec (by decide)⟩
theorem bent_mid {R : D → Bool → Prop} {p : Pg} {n i r : Nat} {m : Md} {x : Rl} {f0 : Str} {fr : List Str} {m0 : Md} {mr : List Md} (hn : n ≤ 1) (hp : p.bd n) (hf : p.flags = f0 :: fr) (hm0 : p.modes = m0 :: mr) (hi : p.modes[i]? = some m) (hr : m.rules[r]? = some x)
    (hR : ∀ p' : Pg, p'.bd (n + 1) → R p'.enc false) (s1 : SD) (way : Int) :
    tBnO { nx := tdSeq tBnI tBn2 { nx := fun _ => R .none false, rt := R }, rt := R } [.src, s1, .d (dS p.word), .d (dS p.name), .d (dT (p.starts.map dS)), .d (dT (p.flags.map dS)), .d (dT (p.modes.map Md.enc)), .d (.int way), .d (.int (i : Nat)), .d (dT (m.rules.map Rl.enc)), .d (.int (r : Nat)), .d (dS x.on), .d x.c.enc, .d (dT (x.ds.map Dd.enc)), .un, .un] := by
  have him : m ∈ p.modes := List.mem_of_getElem? hi
  have hxm : x ∈ m.rules := List.mem_of_getElem? hr
  have hrl : r < m.rules.length := (List.getElem?_eq_some_iff.mp hr).1
  obtain ⟨xc1, xc2, xc3⟩ := hp.c m him x hxm
  obtain ⟨xd1, xd2⟩ := hp.d m him x hxm
  have xon := hp.on m him x hxm
  have hf0 : tk f0 := hp.ft f0 (by rw [hf]; simp)
  have hm0k : tk m0.name := (hp.mt m0 (by rw [hm0]; simp)).1
  have hok := odd_ok hf0 hm0k
  have mid : ∀ q, (tdSeq tBnI tBn2) { nx := fun _ => R .none false, rt := R } [.src, s1, .d (dS p.word), .d (dS p.name), .d (dT (p.starts.map dS)), .d (dT (p.flags.map dS)), .d (dT (p.modes.map Md.enc)), .d (.int way), .d (.int (i : Nat)), .d (dT (m.rules.map Rl.enc)), .d (.int (r : Nat)), .d (dS x.on), .d x.c.enc, .d (dT (x.ds.map Dd.enc)), .own q ((oddL f0 m0.name).map Dd.enc), .un] := fun q => by
    have tail : ∀ (on : Str) (c : Cd) (ds : List Dd), tk on → (c.high ≤ 3 + 2 * (n + 1) ∧ c.size ≤ 7 + 4 * (n + 1) ∧ ∀ s ∈ c.flags, tk s) → (ds.length ≤ 6 + 2 * (n + 1) ∧ ∀ d ∈ ds, d.ok) → tBn2 { nx := fun _ => R .none false, rt := R } [.src, s1, .d (dS p.word), .d (dS p.name), .d (dT (p.starts.map dS)), .d (dT (p.flags.map dS)), .d (dT (p.modes.map Md.enc)), .d (.int way), .d (.int (i : Nat)), .d (dT (m.rules.map Rl.enc)), .d (.int (r : Nat)), .d (dS on), .d c.enc, .d (dT (ds.map Dd.enc)), .own q ((oddL f0 m0.name).map Dd.enc), .un] := fun on c ds hon hc hd => bent_tail hn hp hi hrl hon hc hd hR s1 _ _
    unfold tBnI
    generalize tBn2 = T at tail ⊢
    generalize hO : (oddL f0 m0.name).map Dd.enc = O at tail ⊢
    have draw : ∀ (Q : D → Bool → Prop), (∀ d ∈ oddL f0 m0.name, Q d.enc false) → g_law_of [.list O] Q := fun Q h => by
      refine ⟨_, _, rfl, rfl, by rw [← hO]; simp [oddL], by rw [← hO]; simp [oddL], fun y hy => ?_⟩
      rw [← hO] at hy
      obtain ⟨d, hd, rfl⟩ := List.mem_map.mp hy
      exact h d hd
    rw [hf] at tail ⊢
    walk_at "dv"
    have c0 : x.c.high ≤ 3 + 2 * (n + 1) ∧ x.c.size ≤ 7 + 4 * (n + 1) ∧ ∀ s ∈ x.c.flags, tk s := ⟨by omega, by omega, xc3⟩
    have d0 : x.ds.length ≤ 6 + 2 * (n + 1) ∧ ∀ d ∈ x.ds, d.ok := ⟨by omega, xd2⟩
    by_cases h4 : way = 4
    · rw [decide_eq_true h4]
      refine Eq.mpr (if_pos rfl) ?_
      exact putD_lf rfl (tail "zz" x.c x.ds (tk_dec (by decide)) c0 d0)
    rw [decide_eq_false h4]
    refine Eq.mpr (if_neg (by decide)) ?_
    by_cases h5 : way = 5
    · rw [decide_eq_true h5]
      refine Eq.mpr (if_pos rfl) ?_
      refine ⟨le_line (by simp), _, _, rfl, rfl, by simp, by simp, fun y hy => ?_⟩
      obtain ⟨s, hs, rfl⟩ : ∃ s : Str, tk s ∧ y = dS s := by
        simp at hy
        rcases hy with rfl | rfl
        · exact ⟨"zz", tk_dec (by decide), rfl⟩
        · exact ⟨f0, hf0, rfl⟩
      refine ⟨le_line (by simp), le_line (by simp), le_line (by simp), putD_lf (lf_enc (.and x.c (.not (.flag s)))) (tail x.on (.and x.c (.not (.flag s))) x.ds xon ⟨?_, ?_, ?_⟩ d0)⟩
      · simp only [Cd.high]; omega
      · simp only [Cd.size]; omega
      · intro z hz
        simp only [Cd.flags, List.mem_append, List.mem_singleton] at hz
        rcases hz with hz | rfl
        · exact xc3 z hz
        · exact hs
    rw [decide_eq_false h5]
    refine Eq.mpr (if_neg (by decide)) ?_
    by_cases h9 : way < 9
    · rw [decide_eq_true h9]
      refine Eq.mpr (if_pos rfl) ?_
      refine draw _ fun d hd => ⟨le_line (by simp), le_line (by simp; omega), ?_⟩
      have e : x.ds.map Dd.enc ++ [d.enc] = (x.ds ++ [d]).map Dd.enc := by rw [List.map_append]; rfl
      rw [e]
      refine putD_lf (lf_deeds _) (tail x.on x.c (x.ds ++ [d]) xon c0 ⟨by simp; omega, fun z hz => ?_⟩)
      rcases List.mem_append.mp hz with hz | hz
      · exact xd2 z hz
      · obtain rfl := List.mem_singleton.mp hz
        exact hok _ hd
    · rw [decide_eq_false h9]
      refine Eq.mpr (if_neg (by decide)) ?_
      refine draw _ fun d hd => ⟨le_line (by simp), le_line (by simp; omega), draw _ fun d2 hd2 => ⟨le_line (by simp), le_line (by simp; omega), ?_⟩⟩
      have e : [d.enc] ++ x.ds.map Dd.enc ++ [d2.enc] = ([d] ++ x.ds ++ [d2]).map Dd.enc := by rw [List.map_append, List.map_append]; rfl
      have e' : d.enc :: (x.ds.map Dd.enc ++ [d2.enc]) = ([d] ++ x.ds ++ [d2]).map Dd.enc := by rw [List.map_append, List.map_append]; rfl
      have e3 : d.enc :: x.ds.map Dd.enc ++ [d2.enc] = ([d] ++ x.ds ++ [d2]).map Dd.enc := by rw [List.map_append, List.map_append]; rfl
      first | rw [e] | rw [e'] | rw [e3]
      refine putD_lf (lf_deeds _) (tail x.on x.c ([d] ++ x.ds ++ [d2]) xon c0 ⟨by simp; omega, fun z hz => ?_⟩)
      rcases List.mem_append.mp hz with hz | hz
      · rcases List.mem_append.mp hz with hz | hz
        · obtain rfl := List.mem_singleton.mp hz
          exact hok _ hd
        · exact xd2 z hz
      · obtain rfl := List.mem_singleton.mp hz
        exact hok _ hd2
  unfold tBnO
  generalize tdSeq tBnI tBn2 = T at mid ⊢
  rw [hf, hm0] at mid ⊢
  walk_at "dv"
  simp only [Md.enc] at mid ⊢
  refine ⟨le_line (by simp), le_line (by simp), le_line (by simp), le_line (by simp), le_line (by simp), _, at0, le_line (by simp), le_line (by simp), le_line (by simp), le_line (by simp), ?_⟩
  exact putD_own (xs := (oddL f0 m0.name).map Dd.enc) (lf_encds _) fun q => mid q
end Lw

set_option Elab.async false
set_option linter.all false
set_option maxRecDepth 100000
set_option maxHeartbeats 4000000
namespace Lw
open PySem PySem.Spec PyProof.Rows L2 DL
local macro_rules | `(tactic| walk_at "dl") => `(tactic| simp (config := { maxSteps := 4000000 }) only [tdSeqE, tdSet, tdAsg, tdPar, tdPar3, tdLc, tdItVar, tdIt, tdEnum, tdRg1, tdRg2, tdFor, tdRet, tdRetVar, tdRetN, tdNext, tdIf, tdIfS, tdAnd, tdOr, tdNot, tdAndV, tdOrV, tdNotV, tdB, tdBin, tdChain, tdVar, tdC, tdLst, tdNil, tdCons, tdStar, tdTup, tdNeg, tdSl, tdO0, tdO1, tdRev, tdCall, tdCallS, tdCB, tdIsi, tdAppend, tdExtendA, tdAsgPop, tdPop, tdAppNotPop, tdParPop, tdSetIx, tdAug, eqD, inD, ixD, isN, addD, subD, mulD, modD, fdivD, ltD, leD, gtD, geD, lenD, tupD, listD, DL.intD, reprD, absD, c1, startD, startS, putD, List.map, List.replicate, List.length, wipeD, setZ, setS, List.getElem?_cons_zero, List.getElem?_cons_succ, List.cons_append, List.nil_append, List.append_nil, Nat.sub_self, Nat.reduceSub, Nat.reduceAdd, List.getElem?_nil, Bool.and_true, Bool.true_and, Bool.false_and, Bool.and_false, Bool.or_true, Bool.true_or, Bool.or_false, Bool.false_or, if_true, Bool.false_eq_true, if_false, true_and, and_true, Bool.true_xor, Bool.false_xor, at0, at1, at2, at3, at4, Option.some.injEq, exists_eq_left', Bool.not_true, true_or, or_true, Bool.not_false, id_eq, imp_self, implies_true, lfAll, lf])
local macro_rules | `(tactic| walk_at "kw") => `(tactic| simp (config := { maxSteps := 4000000 }) only [kw_any_flag, kw_any_not, kw_any_and, kw_any_or, kw_any_do, kw_any_go, kw_any_set, kw_any_clear, kw_flag_any, kw_flag_not, kw_flag_and, kw_flag_or, kw_flag_do, kw_flag_go, kw_flag_set, kw_flag_clear, kw_not_any, kw_not_flag, kw_not_and, kw_not_or, kw_not_do, kw_not_go, kw_not_set, kw_not_clear, kw_and_any, kw_and_flag, kw_and_not, kw_and_or, kw_and_do, kw_and_go, kw_and_set, kw_and_clear, kw_or_any, kw_or_flag, kw_or_not, kw_or_and, kw_or_do, kw_or_go, kw_or_set, kw_or_clear, kw_do_any, kw_do_flag, kw_do_not, kw_do_and, kw_do_or, kw_do_go, kw_do_set, kw_do_clear, kw_go_any, kw_go_flag, kw_go_not, kw_go_and, kw_go_or, kw_go_do, kw_go_set, kw_go_clear, kw_set_any, kw_set_flag, kw_set_not, kw_set_and, kw_set_or, kw_set_do, kw_set_go, kw_set_clear, kw_clear_any, kw_clear_flag, kw_clear_not, kw_clear_and, kw_clear_or, kw_clear_do, kw_clear_go, kw_clear_set, eq_self, decide_false, decide_true, Bool.false_eq_true, if_false, if_true, Bool.not_true, Bool.not_false, List.any_cons, List.any_nil, Bool.or_false, Bool.false_or, Bool.or_true, Bool.true_or, Bool.false_xor, Bool.true_xor, eqvS])
local macro_rules | `(tactic| walk_at "dv") => `(tactic| simp (config := { maxSteps := 4000000 }) only [tdSeqE, tdSet, tdAsg, tdPar, tdPar3, tdLc, tdItVar, tdIt, tdEnum, tdRg1, tdRg2, tdFor, tdRet, tdRetVar, tdRetN, tdNext, tdIf, tdIfS, tdAnd, tdOr, tdNot, tdAndV, tdOrV, tdNotV, tdB, tdBin, tdChain, tdVar, tdC, tdLst, tdNil, tdCons, tdStar, tdTup, tdNeg, tdSl, tdO0, tdO1, tdRev, tdCall, tdCallS, tdCB, tdIsi, tdAppend, tdExtendA, tdAsgPop, tdPop, tdAppNotPop, tdParPop, tdSetIx, tdAug, eqD, inD, ixD, isN, addD, subD, mulD, modD, fdivD, ltD, leD, gtD, geD, lenD, tupD, listD, DL.intD, reprD, absD, c1, startD, startS, List.map, List.replicate, List.length, wipeD, setZ, setS, List.getElem?_cons_zero, List.getElem?_cons_succ, List.cons_append, List.nil_append, List.append_nil, Nat.sub_self, Nat.reduceSub, Nat.reduceAdd, List.getElem?_nil, Bool.and_true, Bool.true_and, Bool.false_and, Bool.and_false, Bool.or_true, Bool.true_or, Bool.or_false, Bool.false_or, if_true, Bool.false_eq_true, if_false, true_and, and_true, Bool.true_xor, Bool.false_xor, at0, at1, at2, at3, at4, Option.some.injEq, exists_eq_left', Bool.not_true, true_or, or_true, Bool.not_false, id_eq, imp_self, implies_true, lfAll, lf])
def tBnR : TSd := tdSeq (tdSet 9 (tdBin ixD (tdBin ixD (tdVar 6) (tdVar 8)) (tdC (.int 2))))
    (tdSeq (tdIfS (tdB (tdBin (eqD false) (tdVar 9) (tdTup tdNil))) (tdRetVar 1) tdNext)
    (tdSeq (tdSet 10 (tdCallS 0 (tdCons (tdCB (tdCons (tdVar 9) tdNil) (c1 lenD)) tdNil) g_law_pick))
    (tdSeq (tdAsg (tdBin ixD (tdVar 9) (tdVar 10)) (gdTup 3 (gdCons (putD 11) (gdCons (putD 12) (gdCons (putD 13) gdNil)))))
    (tdSeq tBnO (tdSeq tBnI tBn2)))))
theorem bent_rest {R : D → Bool → Prop} {p : Pg} {n i : Nat} {m : Md} {f0 : Str} {fr : List Str} {m0 : Md} {mr : List Md} (hn : n ≤ 1) (hp : p.bd n) (hf : p.flags = f0 :: fr) (hm0 : p.modes = m0 :: mr) (hi : p.modes[i]? = some m)
    (hR : ∀ p' : Pg, p'.bd (n + 1) → R p'.enc false) (way : Int) :
    tBnR { nx := fun _ => R .none false, rt := R } [.src, .d p.enc, .d (dS p.word), .d (dS p.name), .d (dT (p.starts.map dS)), .d (dT (p.flags.map dS)), .d (dT (p.modes.map Md.enc)), .d (.int way), .d (.int (i : Nat)), .un, .un, .un, .un, .un, .un, .un] := by
  unfold tBnR
  have him : m ∈ p.modes := List.mem_of_getElem? hi
  have hml := (hp.mt m him).2
  have mid : ∀ (r : Nat) (x : Rl), m.rules[r]? = some x → ∀ s1, _ := fun r x hr s1 => bent_mid hn hp hf hm0 hi hr hR s1 way
  generalize tdSeq tBnI tBn2 = U at mid ⊢
  generalize tBnO = O at mid ⊢
  generalize hpe : p.enc = pe
  try walk_at "dv"
  refine ⟨m.enc, at_nat (by rw [List.getElem?_map, hi]; rfl), ?_⟩
  simp only [Md.enc]
  try walk_at "dv"
  refine putD_lf (lf_rules _) ?_
  try walk_at "dv"
  refine ⟨le_line (by simp), min_nilT _, ?_⟩
  rw [eqv_nilT]
  by_cases hr : m.rules = []
  · rw [hr]
    refine Eq.mpr (if_pos rfl) ?_
    rw [← hpe]
    exact hR p hp.mono
  · have h00 : 0 < m.rules.length := List.length_pos_iff.mpr hr
    refine Eq.mpr (if_neg (by simp [hr])) ?_
    try walk_at "dv"
    refine ⟨_, rfl, ?_, fun k k0 k1 => ?_⟩
    · simp; omega
    obtain ⟨j, rfl⟩ : ∃ j : Nat, k = j := ⟨k.toNat, by omega⟩
    have hj : j < m.rules.length := by simp at k1; omega
    refine putD_lf rfl ?_
    try walk_at "dv"
    obtain ⟨x, hx⟩ : ∃ x, m.rules[j]? = some x := ⟨_, List.getElem?_eq_getElem hj⟩
    refine ⟨x.enc, at_nat (by rw [List.getElem?_map, hx]; rfl), ?_⟩
    simp only [Rl.enc]
    refine gd3 rfl (lf_enc _) (lf_deeds _) ?_
    simp only [setZ, setS, tdSeqE]
    exact mid j x hx _
theorem sem_law_bent : ∀ ds R, g_law_bent ds R → t_law_bent { nx := fun _ => R .none false, rt := R } (startS N_law_bent ds) := by
  rintro _ R ⟨p, n, rfl, hn, hp, hf, hR⟩
  obtain ⟨f0, fr, hff⟩ := List.exists_cons_of_ne_nil hf
  obtain ⟨m0, mr, hmm⟩ := List.exists_cons_of_ne_nil hp.m0
  have hq := hp.mono
  have rest : ∀ (i : Nat) (m : Md), p.modes[i]? = some m → ∀ way, _ := fun i m hi way => bent_rest hn hp hff hmm hi hR way
  rw [show t_law_bent = tdSeq _ (tdSeq _ (tdSeq _ (tdSeq _ (tdSeq _ (tdSeq _ tBnR))))) from rfl]
  generalize tBnR = T at rest ⊢
  have e0 : startS N_law_bent [p.enc] = [.src, .d p.enc, .un, .un, .un, .un, .un, .un, .un, .un, .un, .un, .un, .un, .un, .un] := rfl
  rw [e0]
  generalize hpe : p.enc = pe at rest ⊢
  have hpe' : pe = dT [dS p.word, dS p.name, dT (p.starts.map dS), dT (p.flags.map dS), dT (p.modes.map Md.enc)] := by rw [← hpe]; rfl
  try walk_at "dv"
  rw [hpe']
  refine gd5 rfl rfl (lf_strs _) (lf_strs _) (lf_modes _) ?_
  rw [← hpe']
  try walk_at "dv"
  refine ⟨11, rfl, by decide, fun way w0 w1 => ?_⟩
  have hnm := hp.nm
  refine ⟨_, rfl, by simp; omega, fun k k0 k1 => ?_⟩
  obtain ⟨i, rfl⟩ : ∃ i : Nat, k = i := ⟨k.toNat, by omega⟩
  have hi : i < p.modes.length := by
    have : 0 < p.modes.length := by rw [hmm]; simp
    simp at k1; omega
  refine putD_lf rfl (putD_lf rfl ?_)
  try walk_at "dv"
  by_cases h0 : way = 0
  · rw [decide_eq_true h0]
    refine Eq.mpr (if_pos rfl) ?_
    refine ⟨le_line (by simp), _, _, rfl, rfl, by simp, by simp, fun y hy => ?_⟩
    obtain ⟨s, hs, rfl⟩ : ∃ s : Str, lt1 s ∧ y = dS s := by
      simp at hy
      rcases hy with rfl | rfl | rfl
      · exact ⟨"zz", lt1_dec (by decide), rfl⟩
      · exact ⟨"zz-", lt1_dec (by decide), rfl⟩
      · exact ⟨"x-", lt1_dec (by decide), rfl⟩
    have hns := hp.ns
    refine ⟨le_line (by simp), le_line (by simp; omega), le_line (by simp), ?_⟩
    have e : p.starts.map dS ++ [dS s] = (p.starts ++ [s]).map dS := by rw [List.map_append]; rfl
    rw [e]
    refine hR ⟨p.word, p.name, p.starts ++ [s], p.flags, p.modes⟩ ⟨hq.word, hq.name, ?_, ?_, hq.nf, hq.ft, hq.nm, hq.m0, hq.mt, hq.on, hq.c, hq.d⟩
    · show (p.starts ++ [s]).length ≤ _
      simp; omega
    · intro t ht
      rcases List.mem_append.mp ht with ht | ht
      · exact hp.starts t ht
      · obtain rfl := List.mem_singleton.mp ht
        exact hs
  rw [decide_eq_false h0]
  refine Eq.mpr (if_neg (by decide)) ?_
  try walk_at "dv"
  by_cases h1 : way = 1
  · rw [decide_eq_true h1]
    refine Eq.mpr (if_pos rfl) ?_
    have e1 : DL.cutD (p.flags.map dS) none (some (1 : Int)) = (p.flags.take 1).map dS := by
      have := cut_take (xs := p.flags.map dS) (k := 1)
      rw [← List.map_take] at this
      exact this
    rw [e1]
    have hnf := hp.nf
    refine ⟨le_line (by simp; omega), le_line (by simp), ?_⟩
    rw [← List.map_append]
    refine hR ⟨p.word, p.name, p.starts, p.flags ++ p.flags.take 1, p.modes⟩ ⟨hq.word, hq.name, hq.ns, hq.starts, ?_, ?_, hq.nm, hq.m0, hq.mt, hq.on, hq.c, hq.d⟩
    · show (p.flags ++ p.flags.take 1).length ≤ _
      simp; omega
    · intro t ht
      rcases List.mem_append.mp ht with ht | ht
      · exact hp.ft t ht
      · exact hp.ft t (List.mem_of_mem_take ht)
  rw [decide_eq_false h1]
  refine Eq.mpr (if_neg (by decide)) ?_
  try walk_at "dv"
  by_cases h2 : way = 2
  · rw [decide_eq_true h2]
    refine Eq.mpr (if_pos rfl) ?_
    have e1 : DL.cutD (p.modes.map Md.enc) (some (i : Int)) (some ((i : Int) + 1)) = ((p.modes.drop i).take 1).map Md.enc := by
      unfold DL.cutD
      rw [show ((i : Int) + 1) = ((i + 1 : Nat) : Int) by omega, HT.sIx_nat, HT.sIx_nat, List.length_map, Nat.min_eq_left (by omega), Nat.min_eq_left (by omega), show i + 1 - i = 1 by omega, List.map_take, List.map_drop]
    rw [e1]
    refine ⟨le_line (by simp; omega), le_line (by simp), ?_⟩
    rw [← List.map_append]
    have sub : ∀ x ∈ p.modes ++ (p.modes.drop i).take 1, x ∈ p.modes := fun x hx => by
      rcases List.mem_append.mp hx with hx | hx
      · exact hx
      · exact List.mem_of_mem_drop (List.mem_of_mem_take hx)
    refine hR ⟨p.word, p.name, p.starts, p.flags, p.modes ++ (p.modes.drop i).take 1⟩ ⟨hq.word, hq.name, hq.ns, hq.starts, hq.nf, hq.ft, ?_, ?_, fun x hx => hq.mt x (sub x hx), fun x hx => hq.on x (sub x hx), fun x hx => hq.c x (sub x hx), fun x hx => hq.d x (sub x hx)⟩
    · show (p.modes ++ (p.modes.drop i).take 1).length ≤ _
      rw [List.length_append, List.length_take]; omega
    · intro z
      have z : p.modes ++ (p.modes.drop i).take 1 = [] := z
      rw [hmm] at z; simp at z
  rw [decide_eq_false h2]
  refine Eq.mpr (if_neg (by decide)) ?_
  try walk_at "dv"
  by_cases h3 : way = 3
  · rw [decide_eq_true h3]
    refine Eq.mpr (if_pos rfl) ?_
    have e1 : DL.cutD (p.flags.map dS) (some (1 : Int)) none = (p.flags.drop 1).map dS := by
      have := cut_drop (xs := p.flags.map dS) (k := 1)
      rw [← List.map_drop] at this
      exact this
    rw [e1]
    refine ⟨le_line (by simp), ?_⟩
    refine hR ⟨p.word, p.name, p.starts, p.flags.drop 1, p.modes⟩ ⟨hq.word, hq.name, hq.ns, hq.starts, ?_, fun t ht => hp.ft t (List.mem_of_mem_drop ht), hq.nm, hq.m0, hq.mt, hq.on, hq.c, hq.d⟩
    show (p.flags.drop 1).length ≤ _
    have := hq.nf
    rw [List.length_drop]; omega
  rw [decide_eq_false h3]
  refine Eq.mpr (if_neg (by decide)) ?_
  exact rest i p.modes[i] (List.getElem?_eq_getElem hi) way
theorem len_law_bent : ∀ ds R, g_law_bent ds R → ds.length + 1 = p_law_bent.length := by rintro _ R ⟨_, _, rfl, _⟩; rfl
end Lw

set_option Elab.async false
set_option linter.all false
set_option maxRecDepth 100000
set_option maxHeartbeats 4000000
namespace Lw
open PySem PySem.Spec PyProof.Rows L2 DL
local macro_rules | `(tactic| walk_at "dl") => `(tactic| simp (config := { maxSteps := 4000000 }) only [tdSeqE, tdSet, tdAsg, tdPar, tdPar3, tdLc, tdItVar, tdIt, tdEnum, tdRg1, tdRg2, tdFor, tdRet, tdRetVar, tdRetN, tdNext, tdIf, tdIfS, tdAnd, tdOr, tdNot, tdAndV, tdOrV, tdNotV, tdB, tdBin, tdChain, tdVar, tdC, tdLst, tdNil, tdCons, tdStar, tdTup, tdNeg, tdSl, tdO0, tdO1, tdRev, tdCall, tdCallS, tdCB, tdIsi, tdAppend, tdExtendA, tdAsgPop, tdPop, tdAppNotPop, tdParPop, tdSetIx, tdAug, eqD, inD, ixD, isN, addD, subD, mulD, modD, fdivD, ltD, leD, gtD, geD, lenD, tupD, listD, DL.intD, reprD, absD, c1, startD, startS, putD, List.map, List.replicate, List.length, wipeD, setZ, setS, List.getElem?_cons_zero, List.getElem?_cons_succ, List.cons_append, List.nil_append, List.append_nil, Nat.sub_self, Nat.reduceSub, Nat.reduceAdd, List.getElem?_nil, Bool.and_true, Bool.true_and, Bool.false_and, Bool.and_false, Bool.or_true, Bool.true_or, Bool.or_false, Bool.false_or, if_true, Bool.false_eq_true, if_false, true_and, and_true, Bool.true_xor, Bool.false_xor, at0, at1, at2, at3, at4, Option.some.injEq, exists_eq_left', Bool.not_true, true_or, or_true, Bool.not_false, id_eq, imp_self, implies_true, lfAll, lf])
local macro_rules | `(tactic| walk_at "kw") => `(tactic| simp (config := { maxSteps := 4000000 }) only [kw_any_flag, kw_any_not, kw_any_and, kw_any_or, kw_any_do, kw_any_go, kw_any_set, kw_any_clear, kw_flag_any, kw_flag_not, kw_flag_and, kw_flag_or, kw_flag_do, kw_flag_go, kw_flag_set, kw_flag_clear, kw_not_any, kw_not_flag, kw_not_and, kw_not_or, kw_not_do, kw_not_go, kw_not_set, kw_not_clear, kw_and_any, kw_and_flag, kw_and_not, kw_and_or, kw_and_do, kw_and_go, kw_and_set, kw_and_clear, kw_or_any, kw_or_flag, kw_or_not, kw_or_and, kw_or_do, kw_or_go, kw_or_set, kw_or_clear, kw_do_any, kw_do_flag, kw_do_not, kw_do_and, kw_do_or, kw_do_go, kw_do_set, kw_do_clear, kw_go_any, kw_go_flag, kw_go_not, kw_go_and, kw_go_or, kw_go_do, kw_go_set, kw_go_clear, kw_set_any, kw_set_flag, kw_set_not, kw_set_and, kw_set_or, kw_set_do, kw_set_go, kw_set_clear, kw_clear_any, kw_clear_flag, kw_clear_not, kw_clear_and, kw_clear_or, kw_clear_do, kw_clear_go, kw_clear_set, eq_self, decide_false, decide_true, Bool.false_eq_true, if_false, if_true, Bool.not_true, Bool.not_false, List.any_cons, List.any_nil, Bool.or_false, Bool.false_or, Bool.or_true, Bool.true_or, Bool.false_xor, Bool.true_xor, eqvS])
local macro_rules | `(tactic| walk_at "dv") => `(tactic| simp (config := { maxSteps := 4000000 }) only [tdSeqE, tdSet, tdAsg, tdPar, tdPar3, tdLc, tdItVar, tdIt, tdEnum, tdRg1, tdRg2, tdFor, tdRet, tdRetVar, tdRetN, tdNext, tdIf, tdIfS, tdAnd, tdOr, tdNot, tdAndV, tdOrV, tdNotV, tdB, tdBin, tdChain, tdVar, tdC, tdLst, tdNil, tdCons, tdStar, tdTup, tdNeg, tdSl, tdO0, tdO1, tdRev, tdCall, tdCallS, tdCB, tdIsi, tdAppend, tdExtendA, tdAsgPop, tdPop, tdAppNotPop, tdParPop, tdSetIx, tdAug, eqD, inD, ixD, isN, addD, subD, mulD, modD, fdivD, ltD, leD, gtD, geD, lenD, tupD, listD, DL.intD, reprD, absD, c1, startD, startS, List.map, List.replicate, List.length, wipeD, setZ, setS, List.getElem?_cons_zero, List.getElem?_cons_succ, List.cons_append, List.nil_append, List.append_nil, Nat.sub_self, Nat.reduceSub, Nat.reduceAdd, List.getElem?_nil, Bool.and_true, Bool.true_and, Bool.false_and, Bool.and_false, Bool.or_true, Bool.true_or, Bool.or_false, Bool.false_or, if_true, Bool.false_eq_true, if_false, true_and, and_true, Bool.true_xor, Bool.false_xor, at0, at1, at2, at3, at4, Option.some.injEq, exists_eq_left', Bool.not_true, true_or, or_true, Bool.not_false, id_eq, imp_self, implies_true, lfAll, lf])
/-! ### rows in sequence are told by what is in them -/
theorem str_ext {a b : Str} (h : a.cps.toList = b.cps.toList) : a = b := by rw [← str_eta a, ← str_eta b, h]
theorem rising_pw : ∀ (l : List Str) (p : Str), risingS p l = true → (p :: l).Pairwise (fun a b => a.cps.toList ≤ b.cps.toList)
  | [], p, _ => List.pairwise_singleton _ _
  | x :: r, p, h => by
    have h' : (!ltCps x.cps.toList p.cps.toList && risingS x r) = true := h
    rw [Bool.and_eq_true, ltCps_eq] at h'
    have h1 : p.cps.toList ≤ x.cps.toList := by simpa using h'.1
    have ih := rising_pw r x h'.2
    refine List.pairwise_cons.mpr ⟨fun y hy => ?_, ih⟩
    rcases List.mem_cons.mp hy with rfl | hy
    · exact h1
    · exact List.le_trans h1 ((List.pairwise_cons.mp ih).1 y hy)
theorem sorted_pw (l : List Str) (h : sortedS l = true) : l.Pairwise (fun a b => a.cps.toList ≤ b.cps.toList) := by
  cases l with
  | nil => exact List.Pairwise.nil
  | cons x r => exact rising_pw r x h
theorem sorted_one {a b c : List Str} (pa : a.Perm c) (pb : b.Perm c) (ha : sortedS a = true) (hb : sortedS b = true) : a = b := by
  refine List.Perm.eq_of_pairwise (le := fun a b : Str => a.cps.toList ≤ b.cps.toList) (fun x y _ _ h1 h2 => str_ext (List.le_antisymm h1 h2)) (sorted_pw a ha) (sorted_pw b hb) (pa.trans pb.symm)
/-! ### sizes -/
theorem rz_str {s : Str} (h : tk s) : Rz 12 0 (dS s) := Rz.str h
theorem rz_strs {ss : List Str} {n : Nat} (h : ∀ s ∈ ss, tk s) (hl : ss.length ≤ n) : Rz (n * 13) 1 (dT (ss.map dS)) := (RzL.map (fun s hs => rz_str (h s hs)) hl).tup
theorem rz_cd : ∀ c : Cd, (∀ s ∈ c.flags, tk s) → Rz (20 * c.size) c.high c.enc
  | .any, _ => (RzL.cons (Rz.str (x := "any") (b := 3) (by decide)) RzL.nil).tup.mono (by simp [Cd.size]) (by simp [Cd.high])
  | .flag s, h => (RzL.cons (Rz.str (x := "flag") (b := 4) (by decide)) (RzL.cons (rz_str (h s (by simp [Cd.flags]))) RzL.nil)).tup.mono (by simp [Cd.size]) (by simp [Cd.high])
  | .not a, h => (RzL.cons (Rz.str (x := "not") (b := 3) (by decide)) (RzL.cons (rz_cd a h) RzL.nil)).tup.mono (by simp only [Cd.size]; omega) (by simp only [Cd.high]; omega)
  | .and a b, h => (RzL.cons (Rz.str (x := "and") (b := 3) (by decide)) (RzL.cons (rz_cd a fun s hs => h s (by simp [Cd.flags, hs])) (RzL.cons (rz_cd b fun s hs => h s (by simp [Cd.flags, hs])) RzL.nil))).tup.mono (by simp only [Cd.size]; omega) (by simp only [Cd.high]; omega)
  | .or a b, h => (RzL.cons (Rz.str (x := "or") (b := 3) (by decide)) (RzL.cons (rz_cd a fun s hs => h s (by simp [Cd.flags, hs])) (RzL.cons (rz_cd b fun s hs => h s (by simp [Cd.flags, hs])) RzL.nil))).tup.mono (by simp only [Cd.size]; omega) (by simp only [Cd.high]; omega)
theorem rz_dd {d : Dd} (h : d.ok) : Rz 300 2 d.enc := by
  cases d with
  | run ts => exact (RzL.cons (Rz.str (x := "do") (b := 2) (by decide)) (RzL.cons (rz_strs (n := 20) (fun s hs => (h.2 s hs).2) h.1) RzL.nil)).tup.mono (by omega) (by omega)
  | go s => exact (RzL.cons (Rz.str (x := "go") (b := 2) (by decide)) (RzL.cons (rz_str h) RzL.nil)).tup.mono (by omega) (by omega)
  | set s => exact (RzL.cons (Rz.str (x := "set") (b := 3) (by decide)) (RzL.cons (rz_str h) RzL.nil)).tup.mono (by omega) (by omega)
  | clear s => exact (RzL.cons (Rz.str (x := "clear") (b := 5) (by decide)) (RzL.cons (rz_str h) RzL.nil)).tup.mono (by omega) (by omega)
theorem rz_rl {r : Rl} (h : r.ok) : Rz 5000 8 r.enc := by
  have h1 := h.c.1
  have h2 := h.c.2.1
  have z : Rz 1200 7 r.c.enc := (rz_cd r.c h.c.2.2).mono (by omega) h2
  exact (RzL.cons (rz_str h.on) (RzL.cons z (RzL.cons (RzL.map (n := 12) (fun d hd => rz_dd (h.ds d hd)) h.n).tup RzL.nil))).tup.mono (by omega) (by omega)
theorem rz_md {m : Md} (h : m.ok) : Rz 61000 10 m.enc :=
  (RzL.cons (rz_str h.name) (RzL.cons (Rz.bool m.yes) (RzL.cons (RzL.map (n := 12) (fun r hr => rz_rl (h.rules r hr)) h.n).tup RzL.nil))).tup.mono (by omega) (by omega)
theorem rz_pg {p : Pg} (h : p.ok) : Rz 500000 12 p.enc :=
  (RzL.cons (rz_str h.word) (RzL.cons (rz_str h.name) (RzL.cons (rz_strs (fun s hs => (h.starts s hs).2) h.ns) (RzL.cons (rz_strs h.flags h.nf) (RzL.cons (RzL.map (n := 8) (fun m hm => rz_md (h.modes m hm)) h.n).tup RzL.nil))))).tup.mono (by omega) (by omega)
/-! ### faults are small -/
def PB (n : Nat) (pl : List D) : Prop := pl.length ≤ n ∧ ∀ x ∈ pl, ∃ k : Nat, x = dI k ∧ k < 1000000
theorem PB.snoc {n : Nat} {pl : List D} {k : Nat} (h : PB n pl) (hk : k < 1000000) : PB (n + 1) (pl ++ [dI k]) :=
  ⟨by rw [List.length_append, List.length_singleton]; have := h.1; omega, fun x hx => by
    rcases List.mem_append.mp hx with hx | hx
    · exact h.2 x hx
    · exact ⟨k, List.mem_singleton.mp hx, hk⟩⟩
theorem PB.mono {n m : Nat} {pl : List D} (h : PB n pl) (hm : n ≤ m) : PB m pl := ⟨Nat.le_trans h.1 hm, h.2⟩
theorem PB.rz {n : Nat} {pl : List D} (h : PB n pl) : Rz n 1 (dT pl) :=
  (RzL.all (b := 0) (h := 0) (n := n) (fun d hd => by
    obtain ⟨k, rfl, hk⟩ := h.2 d hd
    exact Rz.int (by omega)) h.1).tup.mono (by omega) (by omega)
def FB (d : D) : Prop := ∃ pl w, d = fault pl w ∧ PB 40 pl ∧ w.length ≤ 12
theorem FB.rz {d : D} (h : FB d) : Rz 60 2 d := by
  obtain ⟨pl, w, rfl, h1, h2⟩ := h
  exact (RzL.cons h1.rz (RzL.cons (Rz.str h2) RzL.nil)).tup.mono (by omega) (by omega)
theorem fIx_lt (p : Nat → Str → Bool) : ∀ (xs : List Str) (k j : Nat), fIx p k xs = some j → j < k + xs.length
  | [], _, _, h => by cases h
  | x :: xs, k, j, h => by
    unfold fIx at h
    rw [List.length_cons]
    split at h
    · cases h; omega
    · have := fIx_lt p xs (k + 1) j h; omega
theorem actF_fb {acts row : List Str} {pl : List D} (h : PB 39 pl) (hr : row.length ≤ 1000) : ∀ d, actF acts row pl = some d → FB d := fun d e => by
  unfold actF at e
  cases hf : fIx (fun _ x => !decide (base x ∈ acts)) 0 row with
  | none => rw [hf] at e; cases e
  | some j =>
    rw [hf] at e
    have e : some (fault (pl ++ [dI (j : Nat)]) "act") = some d := e
    cases e
    have := fIx_lt _ _ _ _ hf
    exact ⟨_, _, rfl, h.snoc (by omega), by decide⟩
theorem parts_pb : ∀ (c : Cd) (pl : List D) (n : Nat), PB n pl → ∀ x ∈ parts c pl, PB (n + c.high) x.1
  | .any, pl, n, h, x, hx => by
    obtain rfl : x = (pl, .any) := by simpa [parts] using hx
    exact h.mono (by omega)
  | .flag s, pl, n, h, x, hx => by
    obtain rfl : x = (pl, .flag s) := by simpa [parts] using hx
    exact h.mono (by omega)
  | .not a, pl, n, h, x, hx => by
    simp only [parts, List.mem_cons] at hx
    rcases hx with rfl | hx
    · exact h.mono (by omega)
    · exact (parts_pb a _ (n + 1) (h.snoc (k := 1) (by decide)) x hx).mono (by simp only [Cd.high]; omega)
  | .and a b, pl, n, h, x, hx => by
    simp only [parts, List.mem_cons, List.mem_append] at hx
    rcases hx with rfl | hx | hx
    · exact h.mono (by omega)
    · exact (parts_pb a _ (n + 1) (h.snoc (k := 1) (by decide)) x hx).mono (by simp only [Cd.high]; omega)
    · exact (parts_pb b _ (n + 1) (h.snoc (k := 2) (by decide)) x hx).mono (by simp only [Cd.high]; omega)
  | .or a b, pl, n, h, x, hx => by
    simp only [parts, List.mem_cons, List.mem_append] at hx
    rcases hx with rfl | hx | hx
    · exact h.mono (by omega)
    · exact (parts_pb a _ (n + 1) (h.snoc (k := 1) (by decide)) x hx).mono (by simp only [Cd.high]; omega)
    · exact (parts_pb b _ (n + 1) (h.snoc (k := 2) (by decide)) x hx).mono (by simp only [Cd.high]; omega)
theorem cdF_fb {fl : List Str} {c : Cd} {pl : List D} (h : PB 20 pl) (hc : c.high ≤ 10) : ∀ d, cdF fl c pl = some d → FB d := fun d e => by
  unfold cdF at e
  obtain ⟨x, hx, rfl⟩ := Option.map_eq_some_iff.mp e
  have hm := List.mem_of_mem_head? hx
  have := parts_pb c pl 20 h x (List.mem_filter.mp hm).1
  exact ⟨_, _, rfl, ((this.mono (m := 30) (by omega)).snoc (k := 1) (by decide)).mono (by omega), by decide⟩
theorem deedF_fb {acts fl md : List Str} {d : Dd} {pl : List D} (h : PB 20 pl) (hd : d.ok) : ∀ x, deedF acts fl md d pl = some x → FB x := fun x e => by
  have h1 : PB 40 (pl ++ [dI 1]) := (h.snoc (k := 1) (by decide)).mono (by omega)
  cases d with
  | run ts => exact actF_fb ((h.snoc (k := 1) (by decide)).mono (m := 39) (by omega)) (by have := hd.1; omega) x e
  | go s =>
    unfold deedF at e
    dsimp only at e
    split at e
    · cases e
    · cases e; exact ⟨_, _, rfl, h1, by decide⟩
  | set s =>
    unfold deedF at e
    dsimp only at e
    split at e
    · cases e
    · cases e; exact ⟨_, _, rfl, h1, by decide⟩
  | clear s =>
    unfold deedF at e
    dsimp only at e
    split at e
    · cases e
    · cases e; exact ⟨_, _, rfl, h1, by decide⟩
theorem deedsGo_fb {acts fl md : List Str} {pl : List D} (h : PB 19 pl) : ∀ (ds : List Dd) (k : Nat) (met : List U), (∀ d ∈ ds, d.ok) → k + ds.length ≤ 1000 → ∀ x, deedsGo acts fl md pl k met ds = some x → FB x
  | [], _, _, _, _, _, e => by cases e
  | d :: ds, k, met, hd, hl, x, e => by
    rw [List.length_cons] at hl
    have hp : PB 20 (pl ++ [dI k]) := h.snoc (by omega)
    unfold deedsGo at e
    split at e
    · rename_i f hf
      cases e
      exact deedF_fb hp (hd d (by simp)) _ hf
    · split at e
      · cases e; exact ⟨_, _, rfl, hp.mono (by omega), by decide⟩
      · exact deedsGo_fb h ds (k + 1) _ (fun y hy => hd y (List.mem_cons_of_mem _ hy)) (by omega) x e
theorem ruleF_fb {names acts fl md : List Str} {r : Rl} {pl : List D} (h : PB 18 pl) (hr : r.ok) : ∀ x, ruleF names acts fl md r pl = some x → FB x := fun x e => by
  unfold ruleF at e
  split at e
  · split at e
    · rename_i f hf
      cases e
      exact cdF_fb ((h.snoc (k := 1) (by decide)).mono (by omega)) (by have := hr.c.2.1; omega) _ hf
    · exact deedsGo_fb (h.snoc (k := 2) (by decide)) _ _ _ hr.ds (by have := hr.n; omega) x e
  · cases e; exact ⟨_, _, rfl, (h.snoc (k := 0) (by decide)).mono (by omega), by decide⟩
theorem rulesGo_fb {names acts fl md : List Str} {i : Nat} (hi : i < 1000) : ∀ (rs : List Rl) (k : Nat), (∀ r ∈ rs, r.ok) → k + rs.length ≤ 1000 → ∀ x ∈ rulesGo names acts fl md i k rs, x = .none ∨ FB x
  | [], _, _, _, _, h => by cases h
  | r :: rs, k, hr, hl, x, hx => by
    rw [List.length_cons] at hl
    unfold rulesGo at hx
    rcases List.mem_cons.mp hx with rfl | hx
    · have hp : PB 18 [dI 4, dI i, dI 2, dI k] := ⟨by simp, fun y hy => by
        simp at hy
        rcases hy with rfl | rfl | rfl | rfl
        · exact ⟨4, rfl, by decide⟩
        · exact ⟨i, rfl, by omega⟩
        · exact ⟨2, rfl, by decide⟩
        · exact ⟨k, rfl, by omega⟩⟩
      have := ruleF_fb (names := names) (acts := acts) (fl := fl) (md := md) hp (hr r (by simp))
      cases e : ruleF names acts fl md r [dI 4, dI i, dI 2, dI k] with
      | none => exact .inl rfl
      | some d => exact .inr (this d e)
    · exact rulesGo_fb hi rs (k + 1) (fun y hy => hr y (List.mem_cons_of_mem _ hy)) (by omega) x hx
theorem modesGo_fb {names acts fl md : List Str} : ∀ (ms : List Md) (i : Nat), (∀ m ∈ ms, m.ok) → i + ms.length ≤ 900 → ∀ x ∈ modesGo names acts fl md i ms, x = .none ∨ FB x
  | [], _, _, _, _, h => by cases h
  | m :: ms, i, hm, hl, x, hx => by
    rw [List.length_cons] at hl
    unfold modesGo at hx
    rcases List.mem_append.mp hx with hx | hx
    · have := (hm m (by simp)).n
      exact rulesGo_fb (by omega) _ _ (hm m (by simp)).rules (by omega) x hx
    · exact modesGo_fb ms (i + 1) (fun y hy => hm y (List.mem_cons_of_mem _ hy)) (by omega) x hx
theorem two_pb {i k : Nat} (hi : i < 1000000) (hk : k < 1000000) : PB 40 [dI i, dI k] := ⟨by simp, fun y hy => by
  simp at hy
  rcases hy with rfl | rfl
  · exact ⟨i, rfl, hi⟩
  · exact ⟨k, rfl, hk⟩⟩
theorem progF_rz {names acts : List Str} {p : Pg} (h : p.ok) : Rz 60 2 (progF names acts p) := by
  have two : PB 39 [dI 2] := ⟨by decide, fun y hy => by simp at hy; exact ⟨2, hy, by decide⟩⟩
  unfold progF
  split
  · rename_i f hf
    exact (actF_fb two (by have := h.ns; omega) _ hf).rz
  · split
    · rename_i k hk
      have := fIx_lt _ _ _ _ hk
      have := h.nf
      exact FB.rz ⟨_, _, rfl, two_pb (i := 3) (by decide) (by omega), by decide⟩
    · split
      · rename_i k hk
        have := fIx_lt _ _ _ _ hk
        have h2 := h.n
        rw [List.length_map] at this
        exact FB.rz ⟨_, _, rfl, ((two_pb (i := 4) (k := k) (by decide) (by omega)).mono (Nat.le_refl _) |> fun z => (⟨by simp, fun y hy => by
          simp at hy
          rcases hy with rfl | rfl | rfl
          · exact ⟨4, rfl, by decide⟩
          · exact ⟨k, rfl, by omega⟩
          · exact ⟨0, rfl, by decide⟩⟩ : PB 40 [dI 4, dI k, dI 0])), by decide⟩
      · cases e : ((modesGo names acts p.flags (p.modes.map (·.name)) 0 p.modes).filter fun x => !isNone x).head? with
        | none => exact Rz.none.mono (by omega) (by omega)
        | some d =>
          have hm := List.mem_of_mem_head? e
          rcases modesGo_fb p.modes 0 h.modes (by have := h.n; omega) d (List.mem_filter.mp hm).1 with rfl | z
          · exact Rz.none.mono (by omega) (by omega)
          · exact z.rz
end Lw

set_option Elab.async false
set_option linter.all false
set_option maxRecDepth 100000
set_option maxHeartbeats 4000000
namespace Lw
open PySem PySem.Spec PyProof.Rows L2 DL
local macro_rules | `(tactic| walk_at "dl") => `(tactic| simp (config := { maxSteps := 4000000 }) only [tdSeqE, tdSet, tdAsg, tdPar, tdPar3, tdLc, tdItVar, tdIt, tdEnum, tdRg1, tdRg2, tdFor, tdRet, tdRetVar, tdRetN, tdNext, tdIf, tdIfS, tdAnd, tdOr, tdNot, tdAndV, tdOrV, tdNotV, tdB, tdBin, tdChain, tdVar, tdC, tdLst, tdNil, tdCons, tdStar, tdTup, tdNeg, tdSl, tdO0, tdO1, tdRev, tdCall, tdCallS, tdCB, tdIsi, tdAppend, tdExtendA, tdAsgPop, tdPop, tdAppNotPop, tdParPop, tdSetIx, tdAug, eqD, inD, ixD, isN, addD, subD, mulD, modD, fdivD, ltD, leD, gtD, geD, lenD, tupD, listD, DL.intD, reprD, absD, c1, startD, startS, putD, List.map, List.replicate, List.length, wipeD, setZ, setS, List.getElem?_cons_zero, List.getElem?_cons_succ, List.cons_append, List.nil_append, List.append_nil, Nat.sub_self, Nat.reduceSub, Nat.reduceAdd, List.getElem?_nil, Bool.and_true, Bool.true_and, Bool.false_and, Bool.and_false, Bool.or_true, Bool.true_or, Bool.or_false, Bool.false_or, if_true, Bool.false_eq_true, if_false, true_and, and_true, Bool.true_xor, Bool.false_xor, at0, at1, at2, at3, at4, Option.some.injEq, exists_eq_left', Bool.not_true, true_or, or_true, Bool.not_false, id_eq, imp_self, implies_true, lfAll, lf])
local macro_rules | `(tactic| walk_at "kw") => `(tactic| simp (config := { maxSteps := 4000000 }) only [kw_any_flag, kw_any_not, kw_any_and, kw_any_or, kw_any_do, kw_any_go, kw_any_set, kw_any_clear, kw_flag_any, kw_flag_not, kw_flag_and, kw_flag_or, kw_flag_do, kw_flag_go, kw_flag_set, kw_flag_clear, kw_not_any, kw_not_flag, kw_not_and, kw_not_or, kw_not_do, kw_not_go, kw_not_set, kw_not_clear, kw_and_any, kw_and_flag, kw_and_not, kw_and_or, kw_and_do, kw_and_go, kw_and_set, kw_and_clear, kw_or_any, kw_or_flag, kw_or_not, kw_or_and, kw_or_do, kw_or_go, kw_or_set, kw_or_clear, kw_do_any, kw_do_flag, kw_do_not, kw_do_and, kw_do_or, kw_do_go, kw_do_set, kw_do_clear, kw_go_any, kw_go_flag, kw_go_not, kw_go_and, kw_go_or, kw_go_do, kw_go_set, kw_go_clear, kw_set_any, kw_set_flag, kw_set_not, kw_set_and, kw_set_or, kw_set_do, kw_set_go, kw_set_clear, kw_clear_any, kw_clear_flag, kw_clear_not, kw_clear_and, kw_clear_or, kw_clear_do, kw_clear_go, kw_clear_set, eq_self, decide_false, decide_true, Bool.false_eq_true, if_false, if_true, Bool.not_true, Bool.not_false, List.any_cons, List.any_nil, Bool.or_false, Bool.false_or, Bool.or_true, Bool.true_or, Bool.false_xor, Bool.true_xor, eqvS])
local macro_rules | `(tactic| walk_at "dv") => `(tactic| simp (config := { maxSteps := 4000000 }) only [tdSeqE, tdSet, tdAsg, tdPar, tdPar3, tdLc, tdItVar, tdIt, tdEnum, tdRg1, tdRg2, tdFor, tdRet, tdRetVar, tdRetN, tdNext, tdIf, tdIfS, tdAnd, tdOr, tdNot, tdAndV, tdOrV, tdNotV, tdB, tdBin, tdChain, tdVar, tdC, tdLst, tdNil, tdCons, tdStar, tdTup, tdNeg, tdSl, tdO0, tdO1, tdRev, tdCall, tdCallS, tdCB, tdIsi, tdAppend, tdExtendA, tdAsgPop, tdPop, tdAppNotPop, tdParPop, tdSetIx, tdAug, eqD, inD, ixD, isN, addD, subD, mulD, modD, fdivD, ltD, leD, gtD, geD, lenD, tupD, listD, DL.intD, reprD, absD, c1, startD, startS, List.map, List.replicate, List.length, wipeD, setZ, setS, List.getElem?_cons_zero, List.getElem?_cons_succ, List.cons_append, List.nil_append, List.append_nil, Nat.sub_self, Nat.reduceSub, Nat.reduceAdd, List.getElem?_nil, Bool.and_true, Bool.true_and, Bool.false_and, Bool.and_false, Bool.or_true, Bool.true_or, Bool.or_false, Bool.false_or, if_true, Bool.false_eq_true, if_false, true_and, and_true, Bool.true_xor, Bool.false_xor, at0, at1, at2, at3, at4, Option.some.injEq, exists_eq_left', Bool.not_true, true_or, or_true, Bool.not_false, id_eq, imp_self, implies_true, lfAll, lf])
theorem Dd.right.ok {acts fl md : List Str} {d : Dd} (h : d.right acts fl md) (hf : ∀ s ∈ fl, tk s) (hm : ∀ s ∈ md, tk s) : d.ok := by
  cases d with
  | run ts => exact ⟨by have := h.1; omega, fun s hs => (h.2 s hs).2⟩
  | go s => exact hm s h
  | set s => exact hf s h
  | clear s => exact hf s h
theorem Pg.right.bd {names acts : List Str} {p : Pg} (h : p.right names acts) (hn : ∀ s ∈ names, tk s) : p.bd 0 := by
  have hm : ∀ s ∈ p.modes.map (·.name), tk s := fun s hs => by
    obtain ⟨m, hm, rfl⟩ := List.mem_map.mp hs
    exact (h.mt m hm).1
  refine ⟨h.word, h.name, h.ns, fun s hs => (h.starts s hs).2, h.nf, h.ft, h.nm, h.m0, h.mt, fun m hm r hr => hn _ (h.rules m hm r hr).on, fun m hm r hr => ?_, fun m hm' r hr => ?_⟩
  · have := h.rules m hm r hr
    exact ⟨by have := this.hc; omega, by have := this.sc; omega, fun s hs => h.ft s (this.c s hs)⟩
  · have := (h.rules m hm' r hr).ds
    exact ⟨by have := this.n; omega, fun d hd => (this.each d hd).ok h.ft hm⟩
theorem Pg.bd.ok {p : Pg} {n : Nat} (h : p.bd n) (hn : n ≤ 2) : p.ok :=
  ⟨h.word, h.name, by have := h.ns; omega, h.starts, by have := h.nf; omega, h.ft, h.m0, by have := h.nm; omega, fun m hm => ⟨(h.mt m hm).1, by have := (h.mt m hm).2; omega, fun r hr => ⟨h.on m hm r hr, by
    obtain ⟨a, b, c⟩ := h.c m hm r hr
    exact ⟨by omega, by omega, c⟩, by have := (h.d m hm r hr).1; omega, (h.d m hm r hr).2⟩⟩⟩
theorem lots_from : ∀ (ss : List Str) (acc : List (List Str)), (ss.foldl (fun acc s => acc ++ acc.map fun l => l ++ [s]) acc).length = acc.length * 2 ^ ss.length ∧ (∀ l ∈ ss.foldl (fun acc s => acc ++ acc.map fun l => l ++ [s]) acc, ∃ a ∈ acc, l.length ≤ a.length + ss.length ∧ ∀ s ∈ l, s ∈ a ∨ s ∈ ss)
  | [], acc => ⟨by simp, fun l hl => ⟨l, hl, by simp, fun s hs => .inl hs⟩⟩
  | s :: ss, acc => by
    obtain ⟨h1, h2⟩ := lots_from ss (acc ++ acc.map fun l => l ++ [s])
    refine ⟨?_, fun l hl => ?_⟩
    · rw [List.foldl_cons, h1, List.length_append, List.length_map, List.length_cons, Nat.pow_succ, ← Nat.two_mul, Nat.mul_comm (2 ^ ss.length), ← Nat.mul_assoc, Nat.mul_comm acc.length 2]
    · obtain ⟨a, ha, hl1, hl2⟩ := h2 l hl
      rw [List.length_cons]
      rcases List.mem_append.mp ha with ha | ha
      · exact ⟨a, ha, by omega, fun x hx => (hl2 x hx).imp id fun z => List.mem_cons_of_mem _ z⟩
      · obtain ⟨b, hb, rfl⟩ := List.mem_map.mp ha
        refine ⟨b, hb, by rw [List.length_append, List.length_singleton] at hl1; omega, fun x hx => ?_⟩
        rcases hl2 x hx with z | z
        · rcases List.mem_append.mp z with z | z
          · exact .inl z
          · exact .inr (by rw [List.mem_singleton.mp z]; simp)
        · exact .inr (List.mem_cons_of_mem _ z)
theorem lots_len (ss : List Str) : (lotsF ss).length = 2 ^ ss.length := by
  have := (lots_from ss [[]]).1
  simpa [lotsF] using this
theorem lots_mem {ss l : List Str} (h : l ∈ lotsF ss) : l.length ≤ ss.length ∧ ∀ s ∈ l, s ∈ ss := by
  obtain ⟨a, ha, h1, h2⟩ := (lots_from ss [[]]).2 l h
  obtain rfl : a = [] := by simpa using ha
  exact ⟨by simpa using h1, fun s hs => by simpa using h2 s hs⟩
theorem rule_of {p : Pg} {m : Str} (h : m ∈ p.modes.map (·.name)) : ∃ rs, ruleOf p m = some rs := by
  obtain ⟨x, hx, rfl⟩ := List.mem_map.mp h
  unfold ruleOf
  cases e : p.modes.find? fun y => decide (y.name = x.name) with
  | none =>
    have := List.find?_eq_none.mp e x hx
    simp at this
  | some y => exact ⟨_, rfl⟩
theorem runD_rz : ∀ (ds : List Dd) (x : D × Str × List Str), (∀ d ∈ ds, d.ok) → Rz 300 1 x.1 → tk x.2.1 → Rz 300 1 (runD ds x).1 ∧ tk (runD ds x).2.1
  | [], x, _, h1, h2 => ⟨h1, h2⟩
  | .run ts :: ds, (a, m, fl), hd, h1, h2 => by
    have := hd (.run ts) (by simp)
    exact runD_rz ds (dT (ts.map dS), m, fl) (fun y hy => hd y (List.mem_cons_of_mem _ hy)) ((rz_strs (n := 20) (fun s hs => (this.2 s hs).2) this.1).mono (by omega) (by omega)) h2
  | .go s :: ds, (a, m, fl), hd, h1, h2 => runD_rz ds (a, s, fl) (fun y hy => hd y (List.mem_cons_of_mem _ hy)) h1 (hd (.go s) (by simp))
  | .set s :: ds, (a, m, fl), hd, h1, h2 => runD_rz ds (a, m, fl ++ [s]) (fun y hy => hd y (List.mem_cons_of_mem _ hy)) h1 h2
  | .clear s :: ds, (a, m, fl), hd, h1, h2 => runD_rz ds (a, m, fl.filter fun x => !decide (x = s)) (fun y hy => hd y (List.mem_cons_of_mem _ hy)) h1 h2
theorem readF_rz {p : Pg} {rs : List Rl} {m nm : Str} {fl : List Str} (hp : p.ok) (hr : ruleOf p m = some rs) (hm : tk m) : Rz 1000 4 (readF p rs m fl nm) := by
  obtain ⟨hr1, hr2⟩ := ruleOf_mem hr hp
  unfold readF
  cases e : fitOf rs fl nm with
  | none => exact Rz.none.mono (by omega) (by omega)
  | some ds =>
    unfold fitOf at e
    obtain ⟨r, hrr, rfl⟩ := Option.map_eq_some_iff.mp e
    have hok := (hr2 r (List.mem_of_find?_eq_some hrr)).ds
    obtain ⟨z1, z2⟩ := runD_rz r.ds (dT [], m, fl) hok (RzL.nil.tup.mono (by omega) (by omega)) hm
    exact (RzL.cons z1 (RzL.cons (RzL.cons (rz_str z2) (RzL.cons (rz_strs (n := 8) (fun s hs => hp.flags s (List.mem_filter.mp hs).1) (Nat.le_trans (List.length_filter_le _ _) hp.nf)) RzL.nil)).tup RzL.nil)).tup.mono (by omega) (by omega)
theorem parts_sub : ∀ (c : Cd) (pl : List D), ∀ x ∈ parts c pl, x.2.size ≤ c.size ∧ x.2.high ≤ c.high ∧ ∀ s ∈ x.2.flags, s ∈ c.flags
  | .any, pl, x, hx => by
    obtain rfl : x = (pl, .any) := by simpa [parts] using hx
    exact ⟨Nat.le_refl _, Nat.le_refl _, fun _ h => h⟩
  | .flag s, pl, x, hx => by
    obtain rfl : x = (pl, .flag s) := by simpa [parts] using hx
    exact ⟨Nat.le_refl _, Nat.le_refl _, fun _ h => h⟩
  | .not a, pl, x, hx => by
    simp only [parts, List.mem_cons] at hx
    rcases hx with rfl | hx
    · exact ⟨Nat.le_refl _, Nat.le_refl _, fun _ h => h⟩
    · obtain ⟨h1, h2, h3⟩ := parts_sub a _ x hx
      exact ⟨by simp only [Cd.size]; omega, by simp only [Cd.high]; omega, h3⟩
  | .and a b, pl, x, hx => by
    simp only [parts, List.mem_cons, List.mem_append] at hx
    rcases hx with rfl | hx | hx
    · exact ⟨Nat.le_refl _, Nat.le_refl _, fun _ h => h⟩
    · obtain ⟨h1, h2, h3⟩ := parts_sub a _ x hx
      exact ⟨by simp only [Cd.size]; omega, by simp only [Cd.high]; omega, fun s hs => by simp [Cd.flags, h3 s hs]⟩
    · obtain ⟨h1, h2, h3⟩ := parts_sub b _ x hx
      exact ⟨by simp only [Cd.size]; omega, by simp only [Cd.high]; omega, fun s hs => by simp [Cd.flags, h3 s hs]⟩
  | .or a b, pl, x, hx => by
    simp only [parts, List.mem_cons, List.mem_append] at hx
    rcases hx with rfl | hx | hx
    · exact ⟨Nat.le_refl _, Nat.le_refl _, fun _ h => h⟩
    · obtain ⟨h1, h2, h3⟩ := parts_sub a _ x hx
      exact ⟨by simp only [Cd.size]; omega, by simp only [Cd.high]; omega, fun s hs => by simp [Cd.flags, h3 s hs]⟩
    · obtain ⟨h1, h2, h3⟩ := parts_sub b _ x hx
      exact ⟨by simp only [Cd.size]; omega, by simp only [Cd.high]; omega, fun s hs => by simp [Cd.flags, h3 s hs]⟩
theorem parts_rz {c : Cd} {pl : List D} (hc : c.ok) (hp : PB 10 pl) : Rz 80000 20 (.list ((parts c pl).map encP)) := by
  have hl := parts_len c pl
  have h1 := hc.1
  have h2 := hc.2.1
  refine ((RzL.map (b := 1260) (h := 12) (n := 60) (fun x hx => ?_) (by omega)).lst).mono (by omega) (by omega)
  obtain ⟨s1, s2, s3⟩ := parts_sub c pl x hx
  have z : Rz 1200 7 x.2.enc := (rz_cd x.2 fun s hs => hc.2.2 s (s3 s hs)).mono (by omega) (by omega)
  have y : Rz 17 1 (dT x.1) := ((parts_pb c pl 10 hp x hx).mono (m := 17) (by omega)).rz
  exact (RzL.cons y (RzL.cons z RzL.nil)).tup.mono (by omega) (by omega)
theorem kd_mem : ∀ (l acc : List Str) (x : Str), x ∈ kd acc l → x ∈ acc ∨ x ∈ l := by
  intro l
  induction l with
  | nil => intro acc x h; exact .inl (by simpa [kd] using h)
  | cons y l ih =>
    intro acc x h
    unfold kd at h
    split at h
    · exact (ih _ _ h).imp id fun z => List.mem_cons_of_mem _ z
    · rcases ih _ _ h with z | z
      · rcases List.mem_append.mp z with z | z
        · exact .inl z
        · exact .inr (by rw [List.mem_singleton.mp z]; simp)
      · exact .inr (List.mem_cons_of_mem _ z)
theorem kd_len : ∀ (l acc : List Str), (kd acc l).length ≤ acc.length + l.length := by
  intro l
  induction l with
  | nil => intro acc; simp [kd]
  | cons y l ih =>
    intro acc
    unfold kd
    rw [List.length_cons]
    split
    · have := ih acc; omega
    · have := ih (acc ++ [y]); rw [List.length_append, List.length_singleton] at this; omega
theorem names_rz {c : Cd} {ys : List Str} (hc : c.ok) (h : ys.Perm (kd [] c.flags)) : Rz 800 1 (dT (ys.map dS)) := by
  refine (rz_strs (n := 60) (fun s hs => ?_) ?_).mono (by omega) (by omega)
  · rcases kd_mem _ _ _ (h.mem_iff.mp hs) with z | z
    · cases z
    · exact hc.2.2 s z
  · have h1 := h.length_eq
    have h2 := kd_len c.flags []
    have h3 := flags_size c
    have := hc.1
    simp at h2
    omega
theorem told_rz {c : Cd} {pl : List D} {ys : List Str} (hc : c.ok) (hp : PB 10 pl) (h : ys.Perm (kd [] c.flags)) : Rz 90000 22 (.list [.list ((parts c pl).map encP), dT (ys.map dS)]) :=
  (RzL.cons (parts_rz hc hp) (RzL.cons (names_rz hc h) RzL.nil)).lst.mono (by omega) (by omega)
end Lw

set_option Elab.async false
set_option linter.all false
set_option maxRecDepth 100000
set_option maxHeartbeats 4000000
namespace Lw
open PySem PySem.Spec PyProof.Rows L2 DL
local macro_rules | `(tactic| walk_at "dl") => `(tactic| simp (config := { maxSteps := 4000000 }) only [tdSeqE, tdSet, tdAsg, tdPar, tdPar3, tdLc, tdItVar, tdIt, tdEnum, tdRg1, tdRg2, tdFor, tdRet, tdRetVar, tdRetN, tdNext, tdIf, tdIfS, tdAnd, tdOr, tdNot, tdAndV, tdOrV, tdNotV, tdB, tdBin, tdChain, tdVar, tdC, tdLst, tdNil, tdCons, tdStar, tdTup, tdNeg, tdSl, tdO0, tdO1, tdRev, tdCall, tdCallS, tdCB, tdIsi, tdAppend, tdExtendA, tdAsgPop, tdPop, tdAppNotPop, tdParPop, tdSetIx, tdAug, eqD, inD, ixD, isN, addD, subD, mulD, modD, fdivD, ltD, leD, gtD, geD, lenD, tupD, listD, DL.intD, reprD, absD, c1, startD, startS, putD, List.map, List.replicate, List.length, wipeD, setZ, setS, List.getElem?_cons_zero, List.getElem?_cons_succ, List.cons_append, List.nil_append, List.append_nil, Nat.sub_self, Nat.reduceSub, Nat.reduceAdd, List.getElem?_nil, Bool.and_true, Bool.true_and, Bool.false_and, Bool.and_false, Bool.or_true, Bool.true_or, Bool.or_false, Bool.false_or, if_true, Bool.false_eq_true, if_false, true_and, and_true, Bool.true_xor, Bool.false_xor, at0, at1, at2, at3, at4, Option.some.injEq, exists_eq_left', Bool.not_true, true_or, or_true, Bool.not_false, id_eq, imp_self, implies_true, lfAll, lf])
local macro_rules | `(tactic| walk_at "kw") => `(tactic| simp (config := { maxSteps := 4000000 }) only [kw_any_flag, kw_any_not, kw_any_and, kw_any_or, kw_any_do, kw_any_go, kw_any_set, kw_any_clear, kw_flag_any, kw_flag_not, kw_flag_and, kw_flag_or, kw_flag_do, kw_flag_go, kw_flag_set, kw_flag_clear, kw_not_any, kw_not_flag, kw_not_and, kw_not_or, kw_not_do, kw_not_go, kw_not_set, kw_not_clear, kw_and_any, kw_and_flag, kw_and_not, kw_and_or, kw_and_do, kw_and_go, kw_and_set, kw_and_clear, kw_or_any, kw_or_flag, kw_or_not, kw_or_and, kw_or_do, kw_or_go, kw_or_set, kw_or_clear, kw_do_any, kw_do_flag, kw_do_not, kw_do_and, kw_do_or, kw_do_go, kw_do_set, kw_do_clear, kw_go_any, kw_go_flag, kw_go_not, kw_go_and, kw_go_or, kw_go_do, kw_go_set, kw_go_clear, kw_set_any, kw_set_flag, kw_set_not, kw_set_and, kw_set_or, kw_set_do, kw_set_go, kw_set_clear, kw_clear_any, kw_clear_flag, kw_clear_not, kw_clear_and, kw_clear_or, kw_clear_do, kw_clear_go, kw_clear_set, eq_self, decide_false, decide_true, Bool.false_eq_true, if_false, if_true, Bool.not_true, Bool.not_false, List.any_cons, List.any_nil, Bool.or_false, Bool.false_or, Bool.or_true, Bool.true_or, Bool.false_xor, Bool.true_xor, eqvS])
local macro_rules | `(tactic| walk_at "dv") => `(tactic| simp (config := { maxSteps := 4000000 }) only [tdSeqE, tdSet, tdAsg, tdPar, tdPar3, tdLc, tdItVar, tdIt, tdEnum, tdRg1, tdRg2, tdFor, tdRet, tdRetVar, tdRetN, tdNext, tdIf, tdIfS, tdAnd, tdOr, tdNot, tdAndV, tdOrV, tdNotV, tdB, tdBin, tdChain, tdVar, tdC, tdLst, tdNil, tdCons, tdStar, tdTup, tdNeg, tdSl, tdO0, tdO1, tdRev, tdCall, tdCallS, tdCB, tdIsi, tdAppend, tdExtendA, tdAsgPop, tdPop, tdAppNotPop, tdParPop, tdSetIx, tdAug, eqD, inD, ixD, isN, addD, subD, mulD, modD, fdivD, ltD, leD, gtD, geD, lenD, tupD, listD, DL.intD, absD, c1, startD, startS, List.map, List.replicate, List.length, wipeD, setZ, setS, List.getElem?_cons_zero, List.getElem?_cons_succ, List.cons_append, List.nil_append, List.append_nil, Nat.sub_self, Nat.reduceSub, Nat.reduceAdd, List.getElem?_nil, Bool.and_true, Bool.true_and, Bool.false_and, Bool.and_false, Bool.or_true, Bool.true_or, Bool.or_false, Bool.false_or, if_true, Bool.false_eq_true, if_false, true_and, and_true, Bool.true_xor, Bool.false_xor, at0, at1, at2, at3, at4, Option.some.injEq, exists_eq_left', Bool.not_true, true_or, or_true, Bool.not_false, id_eq, imp_self, implies_true, lfAll, lf])
def lwS (x : V) (s2 : SD) (names acts : List Str) (p : Pg) (q : Addr) (s8 s9 s10 s11 s12 s13 s14 s15 : SD) : List SD := [.raw x, .src, s2, .d (dT (names.map dS)), .d (dT (acts.map dS)), .d p.enc, .d (.str p.enc.shown), .own q ((lotsF p.flags).map encT), s8, s9, s10, s11, s12, s13, s14, s15, .un, .un]
theorem pg_enc (p : Pg) : p.enc = dT [dS p.word, dS p.name, dT (p.starts.map dS), dT (p.flags.map dS), dT (p.modes.map Md.enc)] := rfl
def tT1a : TSd := (tdPar 9 10 (tdCallS 1 (tdCons (tdBin ixD (tdVar 5) (tdC (.int 3))) (tdCons (tdC (.int 3)) tdNil)) (g_law_condition 5)) (tdCallS 1 (tdCons (tdVar 7) tdNil) g_law_of))
def tT1b : TSd := (tdSet 11 (tdLst (tdCons (tdCall (tdCons (tdVar 9) (tdCons (tdTup (tdCons (tdC (.int 1)) tdNil)) tdNil)) g_conditions_in) (tdCons (tdCall (tdCons (tdVar 9) tdNil) g_flags_looked_at) tdNil))))
def tT1c : TSd := (tdIfS (tdB (tdBin (eqD true) (tdCB (tdCons (tdVar 11) tdNil) (c1 reprD)) (tdCB (tdCons (tdLst (tdCons (tdCall (tdCons (tdVar 9) (tdCons (tdTup (tdCons (tdC (.int 1)) tdNil)) tdNil)) (g_law_parts 8)) (tdCons (tdCall (tdCons (tdVar 9) tdNil) g_law_flag_names) tdNil))) tdNil) (c1 reprD)))) (tdRet (tdC (.bool false))) tdNext)
def tT1d : TSd := (tdIfS (tdB (tdBin (eqD true) (tdCB (tdCons (tdLc (tdItVar 7) (putD 16) (fun _ R => R true) (tdCall (tdCons (tdVar 9) (tdCons (tdVar 16) tdNil)) g_holds) (([("one", 16)] : List (Str × Nat)).map (·.2))) tdNil) (c1 reprD)) (tdCB (tdCons (tdLc (tdItVar 7) (putD 16) (fun _ R => R true) (tdCall (tdCons (tdVar 9) (tdCons (tdVar 16) tdNil)) (g_law_holds 8)) (([("one", 16)] : List (Str × Nat)).map (·.2))) tdNil) (c1 reprD)))) (tdRet (tdC (.bool false))) tdNext)
def tT1e : TSd := (tdPar 12 13 (tdTup (tdCons (tdCallS 1 (tdCons (tdLc (tdIt (tdBin ixD (tdVar 5) (tdC (.int 4)))) (putD 17) (fun _ R => R true) (tdBin ixD (tdVar 17) (tdC (.int 0))) (([("mode", 17)] : List (Str × Nat)).map (·.2))) tdNil) g_law_of) (tdCons (tdVar 10) tdNil))) (tdCallS 1 (tdCons (tdVar 3) tdNil) g_law_of))
def tT1f : TSd := (tdIfS (tdB (tdBin (eqD true) (tdCB (tdCons (tdCall (tdCons (tdVar 5) (tdCons (tdVar 12) (tdCons (tdVar 13) tdNil))) g_name_read) tdNil) (c1 reprD)) (tdCB (tdCons (tdCall (tdCons (tdVar 5) (tdCons (tdVar 12) (tdCons (tdVar 13) tdNil))) g_law_read) tdNil) (c1 reprD)))) (tdRet (tdC (.bool false))) tdNext)
section
variable {E : DEnds} {x : V} {s2 s8 s9 s10 s11 s12 s13 s14 s15 : SD} {names acts : List Str} {p : Pg} {q : Addr}
structure dcd (p : Pg) (c : Cd) : Prop where
  hi : c.high ≤ 4
  sz : c.size ≤ 15
  fl : ∀ s ∈ c.flags, s ∈ p.flags
theorem dcd.ok {c : Cd} (h : dcd p c) (hp : p.right names acts) : c.ok := ⟨by have := h.sz; omega, by have := h.hi; omega, fun s hs => hp.ft s (h.fl s hs)⟩
theorem t1a (hp : p.right names acts) (h : ∀ c lot, dcd p c → lot ∈ lotsF p.flags → E.nx (lwS x s2 names acts p q s8 (.d c.enc) (.d (encT lot)) s11 s12 s13 s14 s15)) :
    tT1a E (lwS x s2 names acts p q s8 s9 s10 s11 s12 s13 s14 s15) := by
  unfold lwS at h ⊢
  rw [pg_enc] at h ⊢
  unfold tT1a
  have hnf := hp.nf
  try walk_at "dv"
  refine ⟨p.flags, 3, rfl, by decide, by decide, by omega, fun c c1 c2 c3 => ?_⟩
  have hll := lots_len p.flags
  have hl8 : 2 ^ p.flags.length ≤ 2 ^ 3 := Nat.pow_le_pow_right (by decide) hnf
  have hl0 : 0 < 2 ^ p.flags.length := Nat.pow_pos (by decide)
  refine ⟨_, _, rfl, rfl, fun z => ?_, by rw [List.length_map]; omega, fun y hy => ?_⟩
  · have := congrArg List.length z
    rw [List.length_map] at this
    simp at this
    rw [this] at hll; simp at hll; omega
  obtain ⟨lot, hlot, rfl⟩ := List.mem_map.mp hy
  refine putD_lf (lf_enc c) (putD_lf (lf_strs lot) ?_)
  exact h c lot ⟨c1, by have : c.size + 1 ≤ 2 ^ 4 := c2; omega, c3⟩ hlot
theorem one_pb : PB 10 [dI 1] := ⟨by decide, fun y hy => ⟨1, List.mem_singleton.mp hy, by decide⟩⟩
theorem t1b {c : Cd} {s10 : SD} (hc : c.ok) (h : ∀ ys : List Str, ys.Perm (kd [] c.flags) → sortedS ys = true → E.nx (lwS x s2 names acts p q s8 (.d c.enc) s10 (.d (.list [.list ((parts c [dI 1]).map encP), dT (ys.map dS)])) s12 s13 s14 s15)) :
    tT1b E (lwS x s2 names acts p q s8 (.d c.enc) s10 s11 s12 s13 s14 s15) := by
  unfold lwS at h ⊢
  generalize p.enc = pe at h ⊢
  unfold tT1b
  try walk_at "dv"
  refine ⟨le_line (by simp), c, [dI 1], rfl, rfl, by decide, hc, c, rfl, hc, fun ys y1 y2 => ⟨le_line (by simp), ?_⟩⟩
  have := h ys y1 y2
  dsimp only [putD]
  rw [if_neg (by simp [lfAll, lf]), if_pos rfl]
  exact this
theorem t1c {c : Cd} {s10 : SD} {ys : List Str} (hc : c.ok) (h1 : ys.Perm (kd [] c.flags)) (h2 : sortedS ys = true) (h : E.nx (lwS x s2 names acts p q s8 (.d c.enc) s10 (.d (.list [.list ((parts c [dI 1]).map encP), dT (ys.map dS)])) s12 s13 s14 s15)) :
    tT1c E (lwS x s2 names acts p q s8 (.d c.enc) s10 (.d (.list [.list ((parts c [dI 1]).map encP), dT (ys.map dS)])) s12 s13 s14 s15) := by
  have z := told_rz hc one_pb h1
  unfold lwS at h ⊢
  generalize p.enc = pe at h ⊢
  generalize hT : PyData.list [PyData.list ((parts c [dI 1]).map encP), dT (ys.map dS)] = T at h z ⊢
  unfold tT1c tdIfS tdB tdBin tdCB
  generalize hr : reprD = rr
  try walk_at "dv"
  subst hr
  refine z.rep (by omega) (by omega) ?_
  refine ⟨le_line (by simp), c, [dI 1], rfl, by have := hc.2.1; omega, rfl, by have := hc.2.1; simp; omega, by have := hc.1; omega, c, rfl, hc, fun zs z1 z2 => ⟨le_line (by simp), ?_⟩⟩
  obtain rfl := sorted_one h1 z1 h2 z2
  have e : PyData.list [PyData.list ((parts c [dI 1]).map encP), PyData.tuple (ys.map dS)] = T := hT
  rw [e]
  refine z.rep (by omega) (by omega) ?_
  try walk_at "dv"
  exact Eq.mpr (if_neg (by simp)) h
theorem t1d {c : Cd} {s10 s11 : SD} (hp : p.right names acts) (hc : c.ok) (h : E.nx (lwS x s2 names acts p q s8 (.d c.enc) s10 s11 s12 s13 s14 s15)) :
    tT1d E (lwS x s2 names acts p q s8 (.d c.enc) s10 s11 s12 s13 s14 s15) := by
  have hll := lots_len p.flags
  have hl8 : 2 ^ p.flags.length ≤ 2 ^ 3 := Nat.pow_le_pow_right (by decide) hp.nf
  have z : Rz 10 1 (.list ((lotsF p.flags).map fun l => PyData.bool (c.hd l))) := (RzL.map (b := 0) (h := 0) (n := 8) (fun l _ => Rz.bool _) (by omega)).lst.mono (by omega) (by omega)
  unfold lwS at h ⊢
  generalize p.enc = pe at h ⊢
  unfold tT1d tdIfS tdB tdBin tdCB
  generalize hr : reprD = rr
  try walk_at "dv"
  subst hr
  refine lcGo_mapT encT (fun l => PyData.bool (c.hd l)) true (lotsF p.flags) _ (fun l hx K h1 => ?_) (le_line (by omega)) fun a' ha' => ?_
  · refine putD_lf (lf_strs l) ⟨rfl, ?_⟩
    walk_at "dv"
    exact ⟨c, l, rfl, hc, h1⟩
  refine z.rep (by omega) (by omega) ?_
  try walk_at "dv"
  refine lcGo_mapT encT (fun l => PyData.bool (c.hd l)) true (lotsF p.flags) _ (fun l hx K h1 => ?_) (le_line (by omega)) fun a' ha' => ?_
  · refine putD_lf (lf_strs l) ⟨rfl, ?_⟩
    walk_at "dv"
    exact ⟨c, l, rfl, by have := hc.2.1; omega, h1⟩
  refine z.rep (by omega) (by omega) ?_
  try walk_at "dv"
  exact Eq.mpr (if_neg (by simp)) h
theorem t1e {c : Cd} {lot : List Str} (hp : p.right names acts) (n0 : names ≠ []) (nl : names.length ≤ 3) (h : ∀ m nm, m ∈ p.modes.map (·.name) → nm ∈ names → E.nx (lwS x s2 names acts p q s8 (.d c.enc) (.d (encT lot)) s11 (.d (dT [dS m, encT lot])) (.d (dS nm)) s14 s15)) :
    tT1e E (lwS x s2 names acts p q s8 (.d c.enc) (.d (encT lot)) s11 s12 s13 s14 s15) := by
  unfold lwS at h ⊢
  rw [pg_enc] at h ⊢
  unfold tT1e
  have hnm := hp.nm
  try walk_at "dv"
  refine lcGo_mapT Md.enc (fun m => dS m.name) true p.modes _ (fun m hx K h1 => ?_) (le_line (by omega)) fun a' ha' => ?_
  · refine putD_lf (lf_encM m) ⟨rfl, ?_⟩
    unfold Md.enc
    walk_at "dv"
    exact h1
  refine ⟨_, _, rfl, rfl, fun z => ?_, by rw [List.length_map]; omega, fun y hy => ?_⟩
  · exact hp.m0 (List.map_eq_nil_iff.mp z)
  obtain ⟨m, hm, rfl⟩ := List.mem_map.mp hy
  refine ⟨le_line (by simp), _, _, rfl, rfl, fun z => n0 (List.map_eq_nil_iff.mp z), by rw [List.length_map]; omega, fun y hy => ?_⟩
  obtain ⟨nm, hnm, rfl⟩ := List.mem_map.mp hy
  refine putD_lf (by simp [lf, lfAll, encT]; exact lf_strs lot) (putD_lf rfl ?_)
  exact h m.name nm (List.mem_map.mpr ⟨m, hm, rfl⟩) hnm
theorem t1f {lot : List Str} {m nm : Str} {s9 s10 s11 : SD} (hp : p.ok) (hl : lot.length ≤ 10) (hm : m ∈ p.modes.map (·.name)) (h : E.nx (lwS x s2 names acts p q s8 s9 s10 s11 (.d (dT [dS m, encT lot])) (.d (dS nm)) s14 s15)) :
    tT1f E (lwS x s2 names acts p q s8 s9 s10 s11 (.d (dT [dS m, encT lot])) (.d (dS nm)) s14 s15) := by
  obtain ⟨rs, hrs⟩ := rule_of hm
  have hmk : tk m := by
    obtain ⟨y, hy, rfl⟩ := List.mem_map.mp hm
    exact (hp.modes y hy).name
  have z := readF_rz (nm := nm) (fl := lot) hp hrs hmk
  have g : ∀ Q : D → Bool → Prop, Q (readF p rs m lot nm) false → g_name_read [p.enc, dT [dS m, encT lot], dS nm] Q := fun Q hQ => ⟨p, m, nm, lot, rs, rfl, hp, by omega, hrs, hQ⟩
  unfold lwS at h ⊢
  generalize p.enc = pe at h g ⊢
  generalize dT [dS m, encT lot] = st at h g ⊢
  unfold tT1f tdIfS tdB tdBin tdCB
  generalize hr : reprD = rr
  try walk_at "dv"
  subst hr
  refine g _ ?_
  refine z.rep (by omega) (by omega) ?_
  refine g _ ?_
  refine z.rep (by omega) (by omega) ?_
  try walk_at "dv"
  exact Eq.mpr (if_neg (by simp)) h
def tT1 : TSd := tdSeq tT1a (tdSeq tT1b (tdSeq tT1c (tdSeq tT1d (tdSeq tT1e tT1f))))
theorem t1_run {s9 s10 s11 s12 s13 : SD} (hp : p.right names acts) (hn : ∀ s ∈ names, tk s) (n0 : names ≠ []) (nl : names.length ≤ 3) (h : ∀ s9 s10 s11 s12 s13, E.nx (lwS x s2 names acts p q s8 s9 s10 s11 s12 s13 s14 s15)) :
    tT1 E (lwS x s2 names acts p q s8 s9 s10 s11 s12 s13 s14 s15) := by
  unfold tT1
  have hpo := (hp.bd hn).ok (by decide)
  rw [tdSeqE]
  refine t1a hp fun c lot hc hlot => ?_
  have hco := hc.ok hp
  have hll := (lots_mem hlot).1
  have hnf := hp.nf
  dsimp only
  rw [tdSeqE]
  refine t1b hco fun ys y1 y2 => ?_
  dsimp only
  rw [tdSeqE]
  refine t1c hco y1 y2 ?_
  dsimp only
  rw [tdSeqE]
  refine t1d hp hco ?_
  dsimp only
  rw [tdSeqE]
  refine t1e hp n0 nl fun m nm hm hnm => ?_
  exact t1f hpo (by omega) hm (h _ _ _ _ _)
theorem t1_go (hp : p.right names acts) (hn : ∀ s ∈ names, tk s) (n0 : names ≠ []) (nl : names.length ≤ 3) : ∀ (xs : List D), (∀ y ∈ xs, lf y = true) → ∀ s8 s9 s10 s11 s12 s13, (∀ s8 s9 s10 s11 s12 s13, E.nx (lwS x s2 names acts p q s8 s9 s10 s11 s12 s13 s14 s15)) →
    forGo (putD 8) tT1 E xs (lwS x s2 names acts p q s8 s9 s10 s11 s12 s13 s14 s15)
  | [], _, _, _, _, _, _, _, h => h _ _ _ _ _ _
  | y :: ys, hy, s8, s9, s10, s11, s12, s13, h => by
    refine putD_lf (hy y (by simp)) ?_
    exact t1_run hp hn n0 nl fun s9 s10 s11 s12 s13 => t1_go hp hn n0 nl ys (fun z hz => hy z (List.mem_cons_of_mem _ hz)) _ _ _ _ _ _ h
end
end Lw

set_option Elab.async false
set_option linter.all false
set_option maxRecDepth 100000
set_option maxHeartbeats 4000000
namespace Lw
open PySem PySem.Spec PyProof.Rows L2 DL
local macro_rules | `(tactic| walk_at "dl") => `(tactic| simp (config := { maxSteps := 4000000 }) only [tdSeqE, tdSet, tdAsg, tdPar, tdPar3, tdLc, tdItVar, tdIt, tdEnum, tdRg1, tdRg2, tdFor, tdRet, tdRetVar, tdRetN, tdNext, tdIf, tdIfS, tdAnd, tdOr, tdNot, tdAndV, tdOrV, tdNotV, tdB, tdBin, tdChain, tdVar, tdC, tdLst, tdNil, tdCons, tdStar, tdTup, tdNeg, tdSl, tdO0, tdO1, tdRev, tdCall, tdCallS, tdCB, tdIsi, tdAppend, tdExtendA, tdAsgPop, tdPop, tdAppNotPop, tdParPop, tdSetIx, tdAug, eqD, inD, ixD, isN, addD, subD, mulD, modD, fdivD, ltD, leD, gtD, geD, lenD, tupD, listD, DL.intD, reprD, absD, c1, startD, startS, putD, List.map, List.replicate, List.length, wipeD, setZ, setS, List.getElem?_cons_zero, List.getElem?_cons_succ, List.cons_append, List.nil_append, List.append_nil, Nat.sub_self, Nat.reduceSub, Nat.reduceAdd, List.getElem?_nil, Bool.and_true, Bool.true_and, Bool.false_and, Bool.and_false, Bool.or_true, Bool.true_or, Bool.or_false, Bool.false_or, if_true, Bool.false_eq_true, if_false, true_and, and_true, Bool.true_xor, Bool.false_xor, at0, at1, at2, at3, at4, Option.some.injEq, exists_eq_left', Bool.not_true, true_or, or_true, Bool.not_false, id_eq, imp_self, implies_true, lfAll, lf])
local macro_rules | `(tactic| walk_at "kw") => `(tactic| simp (config := { maxSteps := 4000000 }) only [kw_any_flag, kw_any_not, kw_any_and, kw_any_or, kw_any_do, kw_any_go, kw_any_set, kw_any_clear, kw_flag_any, kw_flag_not, kw_flag_and, kw_flag_or, kw_flag_do, kw_flag_go, kw_flag_set, kw_flag_clear, kw_not_any, kw_not_flag, kw_not_and, kw_not_or, kw_not_do, kw_not_go, kw_not_set, kw_not_clear, kw_and_any, kw_and_flag, kw_and_not, kw_and_or, kw_and_do, kw_and_go, kw_and_set, kw_and_clear, kw_or_any, kw_or_flag, kw_or_not, kw_or_and, kw_or_do, kw_or_go, kw_or_set, kw_or_clear, kw_do_any, kw_do_flag, kw_do_not, kw_do_and, kw_do_or, kw_do_go, kw_do_set, kw_do_clear, kw_go_any, kw_go_flag, kw_go_not, kw_go_and, kw_go_or, kw_go_do, kw_go_set, kw_go_clear, kw_set_any, kw_set_flag, kw_set_not, kw_set_and, kw_set_or, kw_set_do, kw_set_go, kw_set_clear, kw_clear_any, kw_clear_flag, kw_clear_not, kw_clear_and, kw_clear_or, kw_clear_do, kw_clear_go, kw_clear_set, eq_self, decide_false, decide_true, Bool.false_eq_true, if_false, if_true, Bool.not_true, Bool.not_false, List.any_cons, List.any_nil, Bool.or_false, Bool.false_or, Bool.or_true, Bool.true_or, Bool.false_xor, Bool.true_xor, eqvS])
local macro_rules | `(tactic| walk_at "dv") => `(tactic| simp (config := { maxSteps := 4000000 }) only [tdSeqE, tdSet, tdAsg, tdPar, tdPar3, tdLc, tdItVar, tdIt, tdEnum, tdRg1, tdRg2, tdFor, tdRet, tdRetVar, tdRetN, tdNext, tdIf, tdIfS, tdAnd, tdOr, tdNot, tdAndV, tdOrV, tdNotV, tdB, tdBin, tdChain, tdVar, tdC, tdLst, tdNil, tdCons, tdStar, tdTup, tdNeg, tdSl, tdO0, tdO1, tdRev, tdCall, tdCallS, tdCB, tdIsi, tdAppend, tdExtendA, tdAsgPop, tdPop, tdAppNotPop, tdParPop, tdSetIx, tdAug, eqD, inD, ixD, isN, addD, subD, mulD, modD, fdivD, ltD, leD, gtD, geD, lenD, tupD, listD, DL.intD, absD, c1, startD, startS, List.map, List.replicate, List.length, wipeD, setZ, setS, List.getElem?_cons_zero, List.getElem?_cons_succ, List.cons_append, List.nil_append, List.append_nil, Nat.sub_self, Nat.reduceSub, Nat.reduceAdd, List.getElem?_nil, Bool.and_true, Bool.true_and, Bool.false_and, Bool.and_false, Bool.or_true, Bool.true_or, Bool.or_false, Bool.false_or, if_true, Bool.false_eq_true, if_false, true_and, and_true, Bool.true_xor, Bool.false_xor, at0, at1, at2, at3, at4, Option.some.injEq, exists_eq_left', Bool.not_true, true_or, or_true, Bool.not_false, id_eq, imp_self, implies_true, lfAll, lf])
def tT2a : TSd := (tdSet 14 (tdCallS 1 (tdCons (tdVar 5) tdNil) g_law_bent))
def tT2b : TSd := (tdSet 14 (tdIf (tdAnd (tdB (tdBin (eqD false) (tdCallS 1 (tdCons (tdC (.int 3)) tdNil) g_law_pick) (tdC (.int 0)))) (tdB (tdChain (ltD) (ltD) (tdC (.int 0)) (tdCB (tdCons (tdBin ixD (tdVar 14) (tdC (.int 3))) tdNil) (c1 lenD)) (tdC (.int 4))))) (tdCallS 1 (tdCons (tdVar 14) tdNil) g_law_bent) (tdVar 14)))
def tT2c : TSd := (tdIfS (tdB (tdBin (eqD true) (tdCB (tdCons (tdCall (tdCons (tdVar 3) (tdCons (tdVar 4) (tdCons (tdVar 14) tdNil))) g_wrong_program) tdNil) (c1 reprD)) (tdCB (tdCons (tdCall (tdCons (tdVar 3) (tdCons (tdVar 4) (tdCons (tdVar 14) tdNil))) g_law_wrong) tdNil) (c1 reprD)))) (tdRet (tdC (.bool false))) tdNext)
def tT2 : TSd := tdSeq tT2a (tdSeq tT2b tT2c)
def tT3 : TSd := (tdIfS (tdB (tdBin (eqD true) (tdCB (tdCons (tdVar 5) tdNil) (c1 reprD)) (tdVar 6))) (tdRet (tdC (.bool false))) tdNext)
section
variable {E : DEnds} {x : V} {s2 s8 s9 s10 s11 s12 s13 s14 s15 s16 s17 : SD} {names acts : List Str} {p : Pg} {q : Addr}
theorem lf_pg (p : Pg) : lf p.enc = true := by
  rw [pg_enc]
  show (_ && _) = true
  simp only [lfAll, lf, lf_strs, lf_modes, Bool.and_true, Bool.true_and, Bool.and_self]
theorem t2a (hb : p.bd 0) (f0 : p.flags ≠ []) (h : ∀ p1 : Pg, p1.bd 1 → E.nx (lwS x s2 names acts p q s8 s9 s10 s11 s12 s13 (.d p1.enc) s15)) :
    tT2a E (lwS x s2 names acts p q s8 s9 s10 s11 s12 s13 s14 s15) := by
  have g : ∀ Q : D → Bool → Prop, (∀ p' : Pg, p'.bd 1 → Q p'.enc false) → g_law_bent [p.enc] Q := fun Q hQ => ⟨p, 0, rfl, by decide, hb, f0, hQ⟩
  unfold lwS at h ⊢
  generalize p.enc = pe at h g ⊢
  unfold tT2a
  walk_at "dv"
  exact g _ fun p1 h1 => putD_lf (lf_pg p1) (h p1 h1)
theorem t2b {p1 : Pg} (hb : p1.bd 1) (h : ∀ p2 : Pg, p2.ok → E.nx (lwS x s2 names acts p q s8 s9 s10 s11 s12 s13 (.d p2.enc) s15)) :
    tT2b E (lwS x s2 names acts p q s8 s9 s10 s11 s12 s13 (.d p1.enc) s15) := by
  have g : p1.flags ≠ [] → ∀ Q : D → Bool → Prop, (∀ p' : Pg, p'.bd 2 → Q p'.enc false) → g_law_bent [p1.enc] Q := fun f0 Q hQ => ⟨p1, 1, rfl, by decide, hb, f0, hQ⟩
  have h1 := h p1 (hb.ok (by decide))
  unfold lwS at h h1 ⊢
  generalize p.enc = pe at h h1 ⊢
  rw [pg_enc p1] at h1 g ⊢
  unfold tT2b tdIf
  walk_at "dv"
  refine ⟨3, rfl, by decide, fun k k0 k1 => ?_⟩
  walk_at "dv"
  have l1 : lf (PyData.tuple [dS p1.word, dS p1.name, dT (p1.starts.map dS), dT (p1.flags.map dS), dT (p1.modes.map Md.enc)]) = true := lf_pg p1
  by_cases hk : k = 0
  · rw [decide_eq_true hk]
    refine Eq.mpr (if_pos rfl) ?_
    rw [List.length_map]
    by_cases h0 : (0 : Int) < ((p1.flags.length : Nat) : Int)
    · rw [decide_eq_true h0]
      refine Eq.mpr (if_pos rfl) ?_
      by_cases h4 : ((p1.flags.length : Nat) : Int) < 4
      · rw [decide_eq_true h4]
        refine Eq.mpr (if_pos rfl) ?_
        refine g (fun z => by rw [z] at h0; simp at h0) _ fun p2 h2 => ?_
        exact putD_lf (lf_pg p2) (h p2 (h2.ok (by decide)))
      · rw [decide_eq_false h4]
        refine Eq.mpr (if_neg (by decide)) ?_
        refine putD_lf l1 ?_
        exact h1
    · rw [decide_eq_false h0]
      refine Eq.mpr (if_neg (by decide)) ?_
      refine putD_lf l1 ?_
      exact h1
  · rw [decide_eq_false hk]
    refine Eq.mpr (if_neg (by decide)) ?_
    refine putD_lf l1 ?_
    exact h1
theorem t2c {p2 : Pg} (hp : p2.ok) (h : E.nx (lwS x s2 names acts p q s8 s9 s10 s11 s12 s13 (.d p2.enc) s15)) :
    tT2c E (lwS x s2 names acts p q s8 s9 s10 s11 s12 s13 (.d p2.enc) s15) := by
  have z := progF_rz (names := names) (acts := acts) hp
  have g : ∀ Q : D → Bool → Prop, Q (progF names acts p2) false → g_wrong_program [dT (names.map dS), dT (acts.map dS), p2.enc] Q := fun Q hQ => ⟨names, acts, p2, rfl, hp, hQ⟩
  unfold lwS at h ⊢
  generalize p.enc = pe at h ⊢
  generalize p2.enc = p2e at h g ⊢
  unfold tT2c tdIfS tdB tdBin tdCB
  walk_at "dv"
  refine g _ ?_
  refine z.rep (by omega) (by omega) ?_
  refine g _ ?_
  refine z.rep (by omega) (by omega) ?_
  walk_at "dv"
  exact Eq.mpr (if_neg (by simp)) h
theorem t2_run (hb : p.bd 0) (f0 : p.flags ≠ []) (h : ∀ s14, E.nx (lwS x s2 names acts p q s8 s9 s10 s11 s12 s13 s14 s15)) :
    tT2 E (lwS x s2 names acts p q s8 s9 s10 s11 s12 s13 s14 s15) := by
  unfold tT2
  rw [tdSeqE]
  refine t2a hb f0 fun p1 h1 => ?_
  dsimp only
  rw [tdSeqE]
  refine t2b h1 fun p2 h2 => ?_
  exact t2c h2 (h _)
theorem t2_go (hb : p.bd 0) (f0 : p.flags ≠ []) : ∀ (xs : List D), (∀ y ∈ xs, lf y = true) → ∀ s8 s14, (∀ s8 s14, E.nx (lwS x s2 names acts p q s8 s9 s10 s11 s12 s13 s14 s15)) →
    forGo (putD 8) tT2 E xs (lwS x s2 names acts p q s8 s9 s10 s11 s12 s13 s14 s15)
  | [], _, _, _, h => h _ _
  | y :: ys, hy, s8, s14, h => by
    refine putD_lf (hy y (by simp)) ?_
    exact t2_run hb f0 fun s14 => t2_go hb f0 ys (fun z hz => hy z (List.mem_cons_of_mem _ hz)) _ _ h
theorem t3_run (hp : p.ok) (h : E.nx (lwS x s2 names acts p q s8 s9 s10 s11 s12 s13 s14 s15)) :
    tT3 E (lwS x s2 names acts p q s8 s9 s10 s11 s12 s13 s14 s15) := by
  have z := rz_pg hp
  unfold lwS at h ⊢
  generalize p.enc = pe at h z ⊢
  unfold tT3 tdIfS tdB tdBin tdCB
  walk_at "dv"
  refine z.rep (by omega) (by omega) ?_
  walk_at "dv"
  exact Eq.mpr (if_neg (by simp)) h
end
/-! ### a lap -/
def lapS (x : V) (s2 s3 s4 s5 s6 s7 s8 s9 s10 s11 s12 s13 s14 s15 : SD) : List SD := [.raw x, .src, s2, s3, s4, s5, s6, s7, s8, s9, s10, s11, s12, s13, s14, s15, .un, .un]
def tLa : TSd := (tdSet 3 (tdCallS 1 (tdCons (tdLst (tdCons (tdTup (tdCons (tdC (.str "a")) tdNil)) (tdCons (tdTup (tdCons (tdC (.str "a")) (tdCons (tdC (.str "b")) tdNil))) (tdCons (tdTup (tdCons (tdC (.str "b")) (tdCons (tdC (.str "x")) tdNil))) tdNil)))) tdNil) g_law_of))
def tLb : TSd := (tdSet 4 (tdCallS 1 (tdCons (tdLst (tdCons (tdTup (tdCons (tdC (.str "x")) tdNil)) (tdCons (tdTup (tdCons (tdC (.str "x")) (tdCons (tdC (.str "y")) tdNil))) (tdCons (tdTup (tdCons (tdC (.str "y")) (tdCons (tdC (.str "x")) tdNil))) tdNil)))) tdNil) g_law_of))
def tLc : TSd := (tdSet 5 (tdCallS 1 (tdCons (tdVar 3) (tdCons (tdVar 4) (tdCons (tdC (.str "p")) tdNil))) g_law_flagged))
def tLd : TSd := (tdPar 6 7 (tdCB (tdCons (tdVar 5) tdNil) (c1 reprD)) (tdCall (tdCons (tdBin ixD (tdVar 5) (tdC (.int 3))) tdNil) g_law_lots))
def tLe : TSd := (tdIfS (tdOr (tdB (tdBin (isN true) (tdCall (tdCons (tdVar 3) (tdCons (tdVar 4) (tdCons (tdVar 5) tdNil))) g_wrong_program) (tdC .none))) (tdB (tdBin (isN true) (tdCall (tdCons (tdVar 3) (tdCons (tdVar 4) (tdCons (tdVar 5) tdNil))) g_law_wrong) (tdC .none)))) (tdRet (tdC (.bool false))) tdNext)
def tLf : TSd := (tdIfS (tdB (tdBin (eqD true) (tdCB (tdCons (tdCall (tdCons (tdVar 5) tdNil) g_first_stand) tdNil) (c1 reprD)) (tdCB (tdCons (tdTup (tdCons (tdBin ixD (tdBin ixD (tdBin ixD (tdVar 5) (tdC (.int 4))) (tdC (.int 0))) (tdC (.int 0))) (tdCons (tdTup tdNil) tdNil))) tdNil) (c1 reprD)))) (tdRet (tdC (.bool false))) tdNext)
end Lw

set_option Elab.async false
set_option linter.all false
set_option maxRecDepth 100000
set_option maxHeartbeats 4000000
namespace Lw
open PySem PySem.Spec PyProof.Rows L2 DL
local macro_rules | `(tactic| walk_at "dl") => `(tactic| simp (config := { maxSteps := 4000000 }) only [tdSeqE, tdSet, tdAsg, tdPar, tdPar3, tdLc, tdItVar, tdIt, tdEnum, tdRg1, tdRg2, tdFor, tdRet, tdRetVar, tdRetN, tdNext, tdIf, tdIfS, tdAnd, tdOr, tdNot, tdAndV, tdOrV, tdNotV, tdB, tdBin, tdChain, tdVar, tdC, tdLst, tdNil, tdCons, tdStar, tdTup, tdNeg, tdSl, tdO0, tdO1, tdRev, tdCall, tdCallS, tdCB, tdIsi, tdAppend, tdExtendA, tdAsgPop, tdPop, tdAppNotPop, tdParPop, tdSetIx, tdAug, eqD, inD, ixD, isN, addD, subD, mulD, modD, fdivD, ltD, leD, gtD, geD, lenD, tupD, listD, DL.intD, reprD, absD, c1, startD, startS, putD, List.map, List.replicate, List.length, wipeD, setZ, setS, List.getElem?_cons_zero, List.getElem?_cons_succ, List.cons_append, List.nil_append, List.append_nil, Nat.sub_self, Nat.reduceSub, Nat.reduceAdd, List.getElem?_nil, Bool.and_true, Bool.true_and, Bool.false_and, Bool.and_false, Bool.or_true, Bool.true_or, Bool.or_false, Bool.false_or, if_true, Bool.false_eq_true, if_false, true_and, and_true, Bool.true_xor, Bool.false_xor, at0, at1, at2, at3, at4, Option.some.injEq, exists_eq_left', Bool.not_true, true_or, or_true, Bool.not_false, id_eq, imp_self, implies_true, lfAll, lf])
local macro_rules | `(tactic| walk_at "kw") => `(tactic| simp (config := { maxSteps := 4000000 }) only [kw_any_flag, kw_any_not, kw_any_and, kw_any_or, kw_any_do, kw_any_go, kw_any_set, kw_any_clear, kw_flag_any, kw_flag_not, kw_flag_and, kw_flag_or, kw_flag_do, kw_flag_go, kw_flag_set, kw_flag_clear, kw_not_any, kw_not_flag, kw_not_and, kw_not_or, kw_not_do, kw_not_go, kw_not_set, kw_not_clear, kw_and_any, kw_and_flag, kw_and_not, kw_and_or, kw_and_do, kw_and_go, kw_and_set, kw_and_clear, kw_or_any, kw_or_flag, kw_or_not, kw_or_and, kw_or_do, kw_or_go, kw_or_set, kw_or_clear, kw_do_any, kw_do_flag, kw_do_not, kw_do_and, kw_do_or, kw_do_go, kw_do_set, kw_do_clear, kw_go_any, kw_go_flag, kw_go_not, kw_go_and, kw_go_or, kw_go_do, kw_go_set, kw_go_clear, kw_set_any, kw_set_flag, kw_set_not, kw_set_and, kw_set_or, kw_set_do, kw_set_go, kw_set_clear, kw_clear_any, kw_clear_flag, kw_clear_not, kw_clear_and, kw_clear_or, kw_clear_do, kw_clear_go, kw_clear_set, eq_self, decide_false, decide_true, Bool.false_eq_true, if_false, if_true, Bool.not_true, Bool.not_false, List.any_cons, List.any_nil, Bool.or_false, Bool.false_or, Bool.or_true, Bool.true_or, Bool.false_xor, Bool.true_xor, eqvS])
local macro_rules | `(tactic| walk_at "dv") => `(tactic| simp (config := { maxSteps := 4000000 }) only [tdSeqE, tdSet, tdAsg, tdPar, tdPar3, tdLc, tdItVar, tdIt, tdEnum, tdRg1, tdRg2, tdFor, tdRet, tdRetVar, tdRetN, tdNext, tdIf, tdIfS, tdAnd, tdOr, tdNot, tdAndV, tdOrV, tdNotV, tdB, tdBin, tdChain, tdVar, tdC, tdLst, tdNil, tdCons, tdStar, tdTup, tdNeg, tdSl, tdO0, tdO1, tdRev, tdCall, tdCallS, tdCB, tdIsi, tdAppend, tdExtendA, tdAsgPop, tdPop, tdAppNotPop, tdParPop, tdSetIx, tdAug, eqD, inD, ixD, isN, addD, subD, mulD, modD, fdivD, ltD, leD, gtD, geD, lenD, tupD, listD, DL.intD, absD, c1, startD, startS, List.map, List.replicate, List.length, wipeD, setZ, setS, List.getElem?_cons_zero, List.getElem?_cons_succ, List.cons_append, List.nil_append, List.append_nil, Nat.sub_self, Nat.reduceSub, Nat.reduceAdd, List.getElem?_nil, Bool.and_true, Bool.true_and, Bool.false_and, Bool.and_false, Bool.or_true, Bool.true_or, Bool.or_false, Bool.false_or, if_true, Bool.false_eq_true, if_false, true_and, and_true, Bool.true_xor, Bool.false_xor, at0, at1, at2, at3, at4, Option.some.injEq, exists_eq_left', Bool.not_true, true_or, or_true, Bool.not_false, id_eq, imp_self, implies_true, lfAll, lf])
section
variable {E : DEnds} {x : V} {s2 s3 s4 s5 s6 s7 s8 s9 s10 s11 s12 s13 s14 s15 : SD} {names acts : List Str} {p : Pg} {q : Addr}
structure nmOk (names : List Str) : Prop where
  t : ∀ s ∈ names, tk s
  n0 : names ≠ []
  n3 : names.length ≤ 3
structure acOk (acts : List Str) : Prop where
  p : plainA acts
  a1 : 1 ≤ acts.length
  a3 : acts.length ≤ 3
theorem nm_ok {l : List Str} (h : decide ((∀ s ∈ l, s.length ≤ 12) ∧ l ≠ [] ∧ l.length ≤ 3) = true) : nmOk l := by
  have h := of_decide_eq_true h
  exact ⟨h.1, h.2.1, h.2.2⟩
theorem ac_ok {l : List Str} (h : decide ((∀ a ∈ l, a.cps.toList ≠ [] ∧ a.length ≤ 10 ∧ isU a = false) ∧ 1 ≤ l.length ∧ l.length ≤ 3) = true) : acOk l := by
  have h := of_decide_eq_true h
  exact ⟨h.1, h.2.1, h.2.2⟩
theorem La (h : ∀ names, nmOk names → E.nx (lapS x s2 (.d (dT (names.map dS))) s4 s5 s6 s7 s8 s9 s10 s11 s12 s13 s14 s15)) : tLa E (lapS x s2 s3 s4 s5 s6 s7 s8 s9 s10 s11 s12 s13 s14 s15) := by
  unfold lapS at h ⊢
  unfold tLa
  try walk_at "dv"
  refine ⟨le_line (by simp), le_line (by simp), le_line (by simp), le_line (by simp), _, _, rfl, rfl, by simp, by simp, fun y hy => ?_⟩
  obtain ⟨l, hl, rfl⟩ : ∃ l : List Str, nmOk l ∧ y = dT (l.map dS) := by
    simp at hy
    rcases hy with rfl | rfl | rfl
    · exact ⟨["a"], nm_ok (by decide), rfl⟩
    · exact ⟨["a", "b"], nm_ok (by decide), rfl⟩
    · exact ⟨["b", "x"], nm_ok (by decide), rfl⟩
  exact putD_lf (lf_strs l) (h l hl)
theorem Lb (h : ∀ acts, acOk acts → E.nx (lapS x s2 s3 (.d (dT (acts.map dS))) s5 s6 s7 s8 s9 s10 s11 s12 s13 s14 s15)) : tLb E (lapS x s2 s3 s4 s5 s6 s7 s8 s9 s10 s11 s12 s13 s14 s15) := by
  unfold lapS at h ⊢
  unfold tLb
  try walk_at "dv"
  refine ⟨le_line (by simp), le_line (by simp), le_line (by simp), le_line (by simp), _, _, rfl, rfl, by simp, by simp, fun y hy => ?_⟩
  obtain ⟨l, hl, rfl⟩ : ∃ l : List Str, acOk l ∧ y = dT (l.map dS) := by
    simp at hy
    rcases hy with rfl | rfl | rfl
    · exact ⟨["x"], ac_ok (by decide), rfl⟩
    · exact ⟨["x", "y"], ac_ok (by decide), rfl⟩
    · exact ⟨["y", "x"], ac_ok (by decide), rfl⟩
  exact putD_lf (lf_strs l) (h l hl)
theorem Lc (hn : nmOk names) (ha : acOk acts) (h : ∀ p : Pg, p.right names acts → E.nx (lapS x s2 (.d (dT (names.map dS))) (.d (dT (acts.map dS))) (.d p.enc) s6 s7 s8 s9 s10 s11 s12 s13 s14 s15)) :
    tLc E (lapS x s2 (.d (dT (names.map dS))) (.d (dT (acts.map dS))) s5 s6 s7 s8 s9 s10 s11 s12 s13 s14 s15) := by
  unfold lapS at h ⊢
  unfold tLc
  try walk_at "dv"
  refine ⟨names, acts, "p", rfl, ha.p, ha.a1, ha.a3, hn.t, hn.n3, tk_dec (by decide), fun p hp => ?_⟩
  exact putD_lf (lf_pg p) (h p hp)
theorem Ld (hp : p.right names acts) (hn : nmOk names) (h : ∀ q, E.nx (lwS x s2 names acts p q s8 s9 s10 s11 s12 s13 s14 s15)) :
    tLd E (lapS x s2 (.d (dT (names.map dS))) (.d (dT (acts.map dS))) (.d p.enc) s6 s7 s8 s9 s10 s11 s12 s13 s14 s15) := by
  have z := rz_pg ((hp.bd hn.t).ok (by decide))
  have hnf := hp.nf
  unfold lapS
  unfold lwS at h
  rw [pg_enc] at h z ⊢
  unfold tLd
  try walk_at "dv"
  refine z.rep (by omega) (by omega) ?_
  refine ⟨p.flags, rfl, by omega, ?_⟩
  refine putD_lf rfl (putD_own (lf_encT _) fun q => ?_)
  exact h q
theorem actF_none {acts row : List Str} {pl : List D} (h : ∀ t ∈ row, base t ∈ acts) : actF acts row pl = none := by
  unfold actF
  cases hf : fIx (fun _ x => !decide (base x ∈ acts)) 0 row with
  | none => rfl
  | some j =>
    have key : ∀ (xs : List Str) (k : Nat), (∀ t ∈ xs, base t ∈ acts) → fIx (fun _ x => !decide (base x ∈ acts)) k xs = none := by
      intro xs
      induction xs with
      | nil => intro k _; rfl
      | cons y ys ih =>
        intro k hy
        unfold fIx
        rw [if_neg (by simp [hy y (by simp)])]
        exact ih _ fun t ht => hy t (List.mem_cons_of_mem _ ht)
    rw [key row 0 h] at hf; cases hf
theorem twF_none {ss : List Str} (h : ss.Nodup) : twF ss = none := by
  unfold twF
  have key : ∀ (xs ys : List Str), (ys ++ xs).Nodup → fIx (fun k x => decide (x ∈ (ys ++ xs).take k)) ys.length xs = none := by
    intro xs
    induction xs with
    | nil => intro ys _; rfl
    | cons y xs ih =>
      intro ys hn
      unfold fIx
      have e : (ys ++ y :: xs).take ys.length = ys := by rw [List.take_left]
      rw [e, if_neg]
      · have := ih (ys ++ [y]) (by simpa using hn)
        simpa using this
      · intro z
        have z := of_decide_eq_true z
        exact (List.nodup_append.mp hn).2.2 y z y (by simp) rfl
  exact key ss [] h
theorem cdF_none {fl : List Str} {c : Cd} {pl : List D} (h : ∀ s ∈ c.flags, s ∈ fl) : cdF fl c pl = none := by
  unfold cdF
  have : ((parts c pl).filter fun x => badF fl x.2) = [] := by
    rw [List.filter_eq_nil_iff]
    intro x hx
    have := (parts_sub c pl x hx).2.2
    cases e : x.2 with
    | flag s =>
      have h1 : s ∈ fl := h s (this s (by rw [e]; simp [Cd.flags]))
      simp [badF, h1]
    | _ => simp [badF]
  rw [this]; rfl
theorem deedF_none {acts fl md : List Str} {d : Dd} {pl : List D} (h : d.right acts fl md) : deedF acts fl md d pl = none := by
  cases d with
  | run ts => exact actF_none fun t ht => (h.2 t ht).1
  | go s => exact if_pos (show s ∈ md from h)
  | set s => exact if_pos (show s ∈ fl from h)
  | clear s => exact if_pos (show s ∈ fl from h)
theorem deedsGo_none {acts fl md : List Str} {pl : List D} : ∀ (ds : List Dd) (k : Nat) (met : List U), (∀ d ∈ ds, d.right acts fl md) → (met ++ ds.map Dd.u).Nodup → deedsGo acts fl md pl k met ds = none
  | [], _, _, _, _ => rfl
  | d :: ds, k, met, h, hn => by
    unfold deedsGo
    rw [deedF_none (h d (by simp))]
    dsimp only
    have h1 : d.u ∉ met := fun z => (List.nodup_append.mp hn).2.2 _ z _ (by simp) rfl
    rw [if_neg h1]
    exact deedsGo_none ds _ _ (fun y hy => h y (List.mem_cons_of_mem _ hy)) (by simpa using hn)
theorem ruleF_none {names acts fl md : List Str} {r : Rl} {pl : List D} (h : r.right names acts fl md) : ruleF names acts fl md r pl = none := by
  unfold ruleF
  rw [if_pos h.on, cdF_none h.c]
  exact deedsGo_none _ _ _ h.ds.each (by simpa using h.ds.nd)
theorem rulesGo_none {names acts fl md : List Str} {i : Nat} : ∀ (rs : List Rl) (k : Nat), (∀ r ∈ rs, r.right names acts fl md) → ∀ x ∈ rulesGo names acts fl md i k rs, x = .none
  | [], _, _, _, h => by cases h
  | r :: rs, k, hr, x, hx => by
    unfold rulesGo at hx
    rcases List.mem_cons.mp hx with rfl | hx
    · rw [ruleF_none (hr r (by simp))]; rfl
    · exact rulesGo_none rs _ (fun y hy => hr y (List.mem_cons_of_mem _ hy)) x hx
theorem modesGo_none {names acts fl md : List Str} : ∀ (ms : List Md) (i : Nat), (∀ m ∈ ms, ∀ r ∈ m.rules, r.right names acts fl md) → ∀ x ∈ modesGo names acts fl md i ms, x = .none
  | [], _, _, _, h => by cases h
  | m :: ms, i, hm, x, hx => by
    unfold modesGo at hx
    rcases List.mem_append.mp hx with hx | hx
    · exact rulesGo_none _ _ (hm m (by simp)) x hx
    · exact modesGo_none ms _ (fun y hy => hm y (List.mem_cons_of_mem _ hy)) x hx
/-- a right program has no fault -/
theorem progF_none (h : p.right names acts) : progF names acts p = .none := by
  unfold progF
  rw [actF_none fun t ht => (h.starts t ht).1]
  dsimp only
  rw [twF_none h.fl]
  dsimp only
  rw [twF_none h.md]
  dsimp only
  have : ((modesGo names acts p.flags (p.modes.map (·.name)) 0 p.modes).filter fun x => !isNone x) = [] := by
    rw [List.filter_eq_nil_iff]
    intro x hx
    rw [modesGo_none p.modes 0 h.rules x hx]
    simp [isNone]
  rw [this]; rfl
theorem Le (hp : p.right names acts) (hn : nmOk names) (h : E.nx (lwS x s2 names acts p q s8 s9 s10 s11 s12 s13 s14 s15)) :
    tLe E (lwS x s2 names acts p q s8 s9 s10 s11 s12 s13 s14 s15) := by
  have hpo := (hp.bd hn.t).ok (by decide)
  have g : ∀ Q : D → Bool → Prop, Q .none false → g_wrong_program [dT (names.map dS), dT (acts.map dS), p.enc] Q := fun Q hQ => ⟨names, acts, p, rfl, hpo, by rw [progF_none hp]; exact hQ⟩
  unfold lwS at h ⊢
  generalize p.enc = pe at h g ⊢
  unfold tLe
  try walk_at "dv"
  refine g _ ?_
  try walk_at "dv"
  refine Eq.mpr (if_neg (by simp [isNone])) ?_
  refine g _ ?_
  try walk_at "dv"
  exact Eq.mpr (if_neg (by simp [isNone])) h
theorem Lf (hp : p.right names acts) (hn : nmOk names) (h : E.nx (lwS x s2 names acts p q s8 s9 s10 s11 s12 s13 s14 s15)) :
    tLf E (lwS x s2 names acts p q s8 s9 s10 s11 s12 s13 s14 s15) := by
  obtain ⟨m0, mr, hmm⟩ := List.exists_cons_of_ne_nil hp.m0
  have z : Rz 100 3 (dT [dS m0.name, dT []]) := (RzL.cons (rz_str (hp.mt m0 (by rw [hmm]; simp)).1) (RzL.cons RzL.nil.tup RzL.nil)).tup.mono (by omega) (by omega)
  have g : ∀ Q : D → Bool → Prop, Q (dT [dS m0.name, dT []]) false → g_first_stand [p.enc] Q := fun Q hQ => ⟨p, m0, mr, rfl, hmm, hQ⟩
  unfold lwS at h ⊢
  rw [pg_enc, hmm] at h g ⊢
  unfold tLf
  try walk_at "dv"
  refine g _ ?_
  refine z.rep (by omega) (by omega) ?_
  try walk_at "dv"
  simp only [Md.enc]
  refine ⟨_, at0, le_line (by simp), le_line (by simp), ?_⟩
  refine z.rep (by omega) (by omega) ?_
  try walk_at "dv"
  exact Eq.mpr (if_neg (by simp)) h
end
end Lw

set_option Elab.async false
set_option linter.all false
set_option maxRecDepth 100000
set_option maxHeartbeats 4000000
namespace Lw
open PySem PySem.Spec PyProof.Rows L2 DL
local macro_rules | `(tactic| walk_at "dl") => `(tactic| simp (config := { maxSteps := 4000000 }) only [tdSeqE, tdSet, tdAsg, tdPar, tdPar3, tdLc, tdItVar, tdIt, tdEnum, tdRg1, tdRg2, tdFor, tdRet, tdRetVar, tdRetN, tdNext, tdIf, tdIfS, tdAnd, tdOr, tdNot, tdAndV, tdOrV, tdNotV, tdB, tdBin, tdChain, tdVar, tdC, tdLst, tdNil, tdCons, tdStar, tdTup, tdNeg, tdSl, tdO0, tdO1, tdRev, tdCall, tdCallS, tdCB, tdIsi, tdAppend, tdExtendA, tdAsgPop, tdPop, tdAppNotPop, tdParPop, tdSetIx, tdAug, eqD, inD, ixD, isN, addD, subD, mulD, modD, fdivD, ltD, leD, gtD, geD, lenD, tupD, listD, DL.intD, reprD, absD, c1, startD, startS, putD, List.map, List.replicate, List.length, wipeD, setZ, setS, List.getElem?_cons_zero, List.getElem?_cons_succ, List.cons_append, List.nil_append, List.append_nil, Nat.sub_self, Nat.reduceSub, Nat.reduceAdd, List.getElem?_nil, Bool.and_true, Bool.true_and, Bool.false_and, Bool.and_false, Bool.or_true, Bool.true_or, Bool.or_false, Bool.false_or, if_true, Bool.false_eq_true, if_false, true_and, and_true, Bool.true_xor, Bool.false_xor, at0, at1, at2, at3, at4, Option.some.injEq, exists_eq_left', Bool.not_true, true_or, or_true, Bool.not_false, id_eq, imp_self, implies_true, lfAll, lf])
local macro_rules | `(tactic| walk_at "kw") => `(tactic| simp (config := { maxSteps := 4000000 }) only [kw_any_flag, kw_any_not, kw_any_and, kw_any_or, kw_any_do, kw_any_go, kw_any_set, kw_any_clear, kw_flag_any, kw_flag_not, kw_flag_and, kw_flag_or, kw_flag_do, kw_flag_go, kw_flag_set, kw_flag_clear, kw_not_any, kw_not_flag, kw_not_and, kw_not_or, kw_not_do, kw_not_go, kw_not_set, kw_not_clear, kw_and_any, kw_and_flag, kw_and_not, kw_and_or, kw_and_do, kw_and_go, kw_and_set, kw_and_clear, kw_or_any, kw_or_flag, kw_or_not, kw_or_and, kw_or_do, kw_or_go, kw_or_set, kw_or_clear, kw_do_any, kw_do_flag, kw_do_not, kw_do_and, kw_do_or, kw_do_go, kw_do_set, kw_do_clear, kw_go_any, kw_go_flag, kw_go_not, kw_go_and, kw_go_or, kw_go_do, kw_go_set, kw_go_clear, kw_set_any, kw_set_flag, kw_set_not, kw_set_and, kw_set_or, kw_set_do, kw_set_go, kw_set_clear, kw_clear_any, kw_clear_flag, kw_clear_not, kw_clear_and, kw_clear_or, kw_clear_do, kw_clear_go, kw_clear_set, eq_self, decide_false, decide_true, Bool.false_eq_true, if_false, if_true, Bool.not_true, Bool.not_false, List.any_cons, List.any_nil, Bool.or_false, Bool.false_or, Bool.or_true, Bool.true_or, Bool.false_xor, Bool.true_xor, eqvS])
local macro_rules | `(tactic| walk_at "dv") => `(tactic| simp (config := { maxSteps := 4000000 }) only [tdSeqE, tdSet, tdAsg, tdPar, tdPar3, tdLc, tdItVar, tdIt, tdEnum, tdRg1, tdRg2, tdFor, tdRet, tdRetVar, tdRetN, tdNext, tdIf, tdIfS, tdAnd, tdOr, tdNot, tdAndV, tdOrV, tdNotV, tdB, tdBin, tdChain, tdVar, tdC, tdLst, tdNil, tdCons, tdStar, tdTup, tdNeg, tdSl, tdO0, tdO1, tdRev, tdCall, tdCallS, tdCB, tdIsi, tdAppend, tdExtendA, tdAsgPop, tdPop, tdAppNotPop, tdParPop, tdSetIx, tdAug, eqD, inD, ixD, isN, addD, subD, mulD, modD, fdivD, ltD, leD, gtD, geD, lenD, tupD, listD, DL.intD, absD, c1, startD, startS, List.map, List.replicate, List.length, wipeD, setZ, setS, List.getElem?_cons_zero, List.getElem?_cons_succ, List.cons_append, List.nil_append, List.append_nil, Nat.sub_self, Nat.reduceSub, Nat.reduceAdd, List.getElem?_nil, Bool.and_true, Bool.true_and, Bool.false_and, Bool.and_false, Bool.or_true, Bool.true_or, Bool.or_false, Bool.false_or, if_true, Bool.false_eq_true, if_false, true_and, and_true, Bool.true_xor, Bool.false_xor, at0, at1, at2, at3, at4, Option.some.injEq, exists_eq_left', Bool.not_true, true_or, or_true, Bool.not_false, id_eq, imp_self, implies_true, lfAll, lf])
def tFor1 : TSd := tdFor (tdRg1 (tdC (.int 5))) (putD 8) tT1
def tFor2 : TSd := tdFor (tdRg1 (tdC (.int 5))) (putD 8) tT2
def tLap : TSd := tdSeq tLa (tdSeq tLb (tdSeq tLc (tdSeq tLd (tdSeq tLe (tdSeq tLf (tdSeq tFor1 (tdSeq tFor2 tT3)))))))
section
variable {E : DEnds} {x : V} {s2 s3 s4 s5 s6 s7 s8 s9 s10 s11 s12 s13 s14 s15 : SD} {names acts : List Str} {p : Pg} {q : Addr}
theorem rg_lf {lo : Int} {n : Nat} : ∀ y ∈ rgD lo n, lf y = true := fun y hy => by
  obtain ⟨i, _, rfl⟩ := rg_mem hy; rfl
theorem for1 (hp : p.right names acts) (hn : nmOk names) (h : ∀ s8 s9 s10 s11 s12 s13, E.nx (lwS x s2 names acts p q s8 s9 s10 s11 s12 s13 s14 s15)) : tFor1 E (lwS x s2 names acts p q s8 s9 s10 s11 s12 s13 s14 s15) := by
  unfold tFor1
  generalize hT : tT1 = T
  walk_at "dv"
  refine ⟨by omega, by omega, ?_⟩
  subst hT
  exact t1_go hp hn.t hn.n0 hn.n3 _ rg_lf _ _ _ _ _ _ h
theorem for2 (hp : p.right names acts) (hn : nmOk names) (h : ∀ s8 s14, E.nx (lwS x s2 names acts p q s8 s9 s10 s11 s12 s13 s14 s15)) : tFor2 E (lwS x s2 names acts p q s8 s9 s10 s11 s12 s13 s14 s15) := by
  unfold tFor2
  generalize hT : tT2 = T
  walk_at "dv"
  refine ⟨by omega, by omega, ?_⟩
  subst hT
  exact t2_go (hp.bd hn.t) hp.f0 _ rg_lf _ _ h
theorem lws_lap : lwS x s2 names acts p q s8 s9 s10 s11 s12 s13 s14 s15 = lapS x s2 (.d (dT (names.map dS))) (.d (dT (acts.map dS))) (.d p.enc) (.d (.str p.enc.shown)) (.own q ((lotsF p.flags).map encT)) s8 s9 s10 s11 s12 s13 s14 s15 := rfl
theorem lap_run (h : ∀ s3 s4 s5 s6 s7 s8 s9 s10 s11 s12 s13 s14 s15, E.nx (lapS x s2 s3 s4 s5 s6 s7 s8 s9 s10 s11 s12 s13 s14 s15)) : tLap E (lapS x s2 s3 s4 s5 s6 s7 s8 s9 s10 s11 s12 s13 s14 s15) := by
  unfold tLap
  rw [tdSeqE]
  refine La fun names hn => ?_
  dsimp only
  rw [tdSeqE]
  refine Lb fun acts ha => ?_
  dsimp only
  rw [tdSeqE]
  refine Lc hn ha fun p hp => ?_
  dsimp only
  rw [tdSeqE]
  refine Ld hp hn fun q => ?_
  dsimp only
  rw [tdSeqE]
  refine Le hp hn ?_
  dsimp only
  rw [tdSeqE]
  refine Lf hp hn ?_
  dsimp only
  rw [tdSeqE]
  refine for1 hp hn fun s8 s9 s10 s11 s12 s13 => ?_
  dsimp only
  rw [tdSeqE]
  refine for2 hp hn fun s8 s14 => ?_
  refine t3_run ((hp.bd hn.t).ok (by decide)) ?_
  rw [lws_lap]
  exact h _ _ _ _ _ _ _ _ _ _ _ _ _
theorem lap_go : ∀ (xs : List D), (∀ y ∈ xs, lf y = true) → ∀ s2 s3 s4 s5 s6 s7 s8 s9 s10 s11 s12 s13 s14 s15, (∀ s2 s3 s4 s5 s6 s7 s8 s9 s10 s11 s12 s13 s14 s15, E.nx (lapS x s2 s3 s4 s5 s6 s7 s8 s9 s10 s11 s12 s13 s14 s15)) → forGo (putD 2) tLap E xs (lapS x s2 s3 s4 s5 s6 s7 s8 s9 s10 s11 s12 s13 s14 s15)
  | [], _, _, _, _, _, _, _, _, _, _, _, _, _, _, _, h => h _ _ _ _ _ _ _ _ _ _ _ _ _ _
  | y :: ys, hy, s2, s3, s4, s5, s6, s7, s8, s9, s10, s11, s12, s13, s14, s15, h => by
    refine putD_lf (hy y (by simp)) ?_
    exact lap_run fun s3 s4 s5 s6 s7 s8 s9 s10 s11 s12 s13 s14 s15 => lap_go ys (fun z hz => hy z (List.mem_cons_of_mem _ hz)) _ _ _ _ _ _ _ _ _ _ _ _ _ _ h
end
/-! ### the two told programs at the end -/
def rl1 : Rl := ⟨"a", .flag "s", [.run ["x"]]⟩
def rl2 : Rl := ⟨"a", .any, [.run ["x"], .run ["x-"]]⟩
def pgOf (r : Rl) : Pg := ⟨"program", "p", [], [], [⟨"m", false, [r]⟩]⟩
theorem rl1_ok : rl1.ok := ⟨tk_dec (by decide), ⟨by decide, by decide, fun s hs => by simp [rl1, Cd.flags] at hs; subst hs; exact tk_dec (by decide)⟩, by decide, fun d hd => by
  simp [rl1] at hd
  subst hd
  exact ⟨by simp, fun s hs => by simp at hs; subst hs; exact lt1_dec (by decide)⟩⟩
theorem rl2_ok : rl2.ok := ⟨tk_dec (by decide), ⟨by decide, by decide, fun s hs => by simp [rl2, Cd.flags] at hs⟩, by decide, fun d hd => by
  simp [rl2] at hd
  rcases hd with rfl | rfl
  · exact ⟨by simp, fun s hs => by simp at hs; subst hs; exact lt1_dec (by decide)⟩
  · exact ⟨by simp, fun s hs => by simp at hs; subst hs; exact lt1_dec (by decide)⟩⟩
theorem pg_ok {r : Rl} (h : r.ok) : (pgOf r).ok := ⟨tk_dec (s := "program") (by decide), tk_dec (s := "p") (by decide), by simp [pgOf], by simp [pgOf], by simp [pgOf], by simp [pgOf], by simp [pgOf], by simp [pgOf], fun m hm => by
  simp [pgOf] at hm
  subst hm
  exact ⟨tk_dec (s := "m") (by decide), by simp, fun x hx => by simp at hx; rw [hx]; exact h⟩⟩
theorem f1 : progF ["a"] ["x"] (pgOf rl1) = fault [dI 4, dI 0, dI 2, dI 0, dI 1, dI 1] "flag" := by rfl
theorem f2 : progF ["a"] ["x"] (pgOf rl2) = fault [dI 4, dI 0, dI 2, dI 0, dI 2, dI 1] "deeds" := by rfl
end Lw

set_option Elab.async false
set_option linter.all false
set_option maxRecDepth 100000
set_option maxHeartbeats 4000000
namespace Lw
open PySem PySem.Spec PyProof.Rows L2 DL
local macro_rules | `(tactic| walk_at "dl") => `(tactic| simp (config := { maxSteps := 4000000 }) only [tdSeqE, tdSet, tdAsg, tdPar, tdPar3, tdLc, tdItVar, tdIt, tdEnum, tdRg1, tdRg2, tdFor, tdRet, tdRetVar, tdRetN, tdNext, tdIf, tdIfS, tdAnd, tdOr, tdNot, tdAndV, tdOrV, tdNotV, tdB, tdBin, tdChain, tdVar, tdC, tdLst, tdNil, tdCons, tdStar, tdTup, tdNeg, tdSl, tdO0, tdO1, tdRev, tdCall, tdCallS, tdCB, tdIsi, tdAppend, tdExtendA, tdAsgPop, tdPop, tdAppNotPop, tdParPop, tdSetIx, tdAug, eqD, inD, ixD, isN, addD, subD, mulD, modD, fdivD, ltD, leD, gtD, geD, lenD, tupD, listD, DL.intD, reprD, absD, c1, startD, startS, putD, List.map, List.replicate, List.length, wipeD, setZ, setS, List.getElem?_cons_zero, List.getElem?_cons_succ, List.cons_append, List.nil_append, List.append_nil, Nat.sub_self, Nat.reduceSub, Nat.reduceAdd, List.getElem?_nil, Bool.and_true, Bool.true_and, Bool.false_and, Bool.and_false, Bool.or_true, Bool.true_or, Bool.or_false, Bool.false_or, if_true, Bool.false_eq_true, if_false, true_and, and_true, Bool.true_xor, Bool.false_xor, at0, at1, at2, at3, at4, Option.some.injEq, exists_eq_left', Bool.not_true, true_or, or_true, Bool.not_false, id_eq, imp_self, implies_true, lfAll, lf])
local macro_rules | `(tactic| walk_at "kw") => `(tactic| simp (config := { maxSteps := 4000000 }) only [kw_any_flag, kw_any_not, kw_any_and, kw_any_or, kw_any_do, kw_any_go, kw_any_set, kw_any_clear, kw_flag_any, kw_flag_not, kw_flag_and, kw_flag_or, kw_flag_do, kw_flag_go, kw_flag_set, kw_flag_clear, kw_not_any, kw_not_flag, kw_not_and, kw_not_or, kw_not_do, kw_not_go, kw_not_set, kw_not_clear, kw_and_any, kw_and_flag, kw_and_not, kw_and_or, kw_and_do, kw_and_go, kw_and_set, kw_and_clear, kw_or_any, kw_or_flag, kw_or_not, kw_or_and, kw_or_do, kw_or_go, kw_or_set, kw_or_clear, kw_do_any, kw_do_flag, kw_do_not, kw_do_and, kw_do_or, kw_do_go, kw_do_set, kw_do_clear, kw_go_any, kw_go_flag, kw_go_not, kw_go_and, kw_go_or, kw_go_do, kw_go_set, kw_go_clear, kw_set_any, kw_set_flag, kw_set_not, kw_set_and, kw_set_or, kw_set_do, kw_set_go, kw_set_clear, kw_clear_any, kw_clear_flag, kw_clear_not, kw_clear_and, kw_clear_or, kw_clear_do, kw_clear_go, kw_clear_set, eq_self, decide_false, decide_true, Bool.false_eq_true, if_false, if_true, Bool.not_true, Bool.not_false, List.any_cons, List.any_nil, Bool.or_false, Bool.false_or, Bool.or_true, Bool.true_or, Bool.false_xor, Bool.true_xor, eqvS])
local macro_rules | `(tactic| walk_at "dv") => `(tactic| simp (config := { maxSteps := 4000000 }) only [tdSeqE, tdSet, tdAsg, tdPar, tdPar3, tdLc, tdItVar, tdIt, tdEnum, tdRg1, tdRg2, tdFor, tdRet, tdRetVar, tdRetN, tdNext, tdIf, tdIfS, tdAnd, tdOr, tdNot, tdAndV, tdOrV, tdNotV, tdB, tdBin, tdChain, tdVar, tdC, tdLst, tdNil, tdCons, tdStar, tdTup, tdNeg, tdSl, tdO0, tdO1, tdRev, tdCall, tdCallS, tdCB, tdIsi, tdAppend, tdExtendA, tdAsgPop, tdPop, tdAppNotPop, tdParPop, tdSetIx, tdAug, eqD, inD, ixD, isN, addD, subD, mulD, modD, fdivD, ltD, leD, gtD, geD, lenD, tupD, listD, DL.intD, absD, c1, startD, startS, List.map, List.replicate, List.length, wipeD, setZ, setS, List.getElem?_cons_zero, List.getElem?_cons_succ, List.cons_append, List.nil_append, List.append_nil, Nat.sub_self, Nat.reduceSub, Nat.reduceAdd, List.getElem?_nil, Bool.and_true, Bool.true_and, Bool.false_and, Bool.and_false, Bool.or_true, Bool.true_or, Bool.or_false, Bool.false_or, if_true, Bool.false_eq_true, if_false, true_and, and_true, Bool.true_xor, Bool.false_xor, at0, at1, at2, at3, at4, Option.some.injEq, exists_eq_left', Bool.not_true, true_or, or_true, Bool.not_false, id_eq, imp_self, implies_true, lfAll, lf])
def tEnd : TSd := (tdSeq (tdSet 15 (tdTup (tdCons (tdC (.str "a")) (tdCons (tdTup (tdCons (tdC (.str "flag")) (tdCons (tdC (.str "s")) tdNil))) (tdCons (tdTup (tdCons (tdTup (tdCons (tdC (.str "do")) (tdCons (tdTup (tdCons (tdC (.str "x")) tdNil)) tdNil))) tdNil)) tdNil)))))
    (tdSeq (tdSet 11 (tdLst (tdCons (tdCall (tdCons (tdTup (tdCons (tdC (.str "a")) tdNil)) (tdCons (tdTup (tdCons (tdC (.str "x")) tdNil)) (tdCons (tdTup (tdCons (tdC (.str "program")) (tdCons (tdC (.str "p")) (tdCons (tdTup tdNil) (tdCons (tdTup tdNil) (tdCons (tdTup (tdCons (tdTup (tdCons (tdC (.str "m")) (tdCons (tdC (.bool false)) (tdCons (tdTup (tdCons (tdVar 15) tdNil)) tdNil)))) tdNil)) tdNil)))))) tdNil))) g_wrong_program) tdNil)))
    (tdSeq (tdSet 15 (tdTup (tdCons (tdC (.str "a")) (tdCons (tdTup (tdCons (tdC (.str "any")) tdNil)) (tdCons (tdTup (tdCons (tdTup (tdCons (tdC (.str "do")) (tdCons (tdTup (tdCons (tdC (.str "x")) tdNil)) tdNil))) (tdCons (tdTup (tdCons (tdC (.str "do")) (tdCons (tdTup (tdCons (tdC (.str "x-")) tdNil)) tdNil))) tdNil))) tdNil)))))
    (tdSeq (tdAppend 11 (tdCall (tdCons (tdTup (tdCons (tdC (.str "a")) tdNil)) (tdCons (tdTup (tdCons (tdC (.str "x")) tdNil)) (tdCons (tdTup (tdCons (tdC (.str "program")) (tdCons (tdC (.str "p")) (tdCons (tdTup tdNil) (tdCons (tdTup tdNil) (tdCons (tdTup (tdCons (tdTup (tdCons (tdC (.str "m")) (tdCons (tdC (.bool false)) (tdCons (tdTup (tdCons (tdVar 15) tdNil)) tdNil)))) tdNil)) tdNil)))))) tdNil))) g_wrong_program))
    (tdRet (tdBin (eqD false) (tdCB (tdCons (tdVar 11) tdNil) (c1 reprD)) (tdCB (tdCons (tdLst (tdCons (tdTup (tdCons (tdTup (tdCons (tdC (.int 4)) (tdCons (tdC (.int 0)) (tdCons (tdC (.int 2)) (tdCons (tdC (.int 0)) (tdCons (tdC (.int 1)) (tdCons (tdC (.int 1)) tdNil))))))) (tdCons (tdC (.str "flag")) tdNil))) (tdCons (tdTup (tdCons (tdTup (tdCons (tdC (.int 4)) (tdCons (tdC (.int 0)) (tdCons (tdC (.int 2)) (tdCons (tdC (.int 0)) (tdCons (tdC (.int 2)) (tdCons (tdC (.int 1)) tdNil))))))) (tdCons (tdC (.str "deeds")) tdNil))) tdNil))) tdNil) (c1 reprD))))))))
def dF1 : D := fault [dI 4, dI 0, dI 2, dI 0, dI 1, dI 1] "flag"
def dF2 : D := fault [dI 4, dI 0, dI 2, dI 0, dI 2, dI 1] "deeds"
theorem w1 (Q : D → Bool → Prop) (h : Q dF1 false) : g_wrong_program [dT [dS "a"], dT [dS "x"], (pgOf rl1).enc] Q := ⟨["a"], ["x"], pgOf rl1, rfl, pg_ok rl1_ok, by rw [f1]; exact h⟩
theorem w2 (Q : D → Bool → Prop) (h : Q dF2 false) : g_wrong_program [dT [dS "a"], dT [dS "x"], (pgOf rl2).enc] Q := ⟨["a"], ["x"], pgOf rl2, rfl, pg_ok rl2_ok, by rw [f2]; exact h⟩
theorem pb_ints {ks : List Nat} {n : Nat} (h : decide (ks.length ≤ n ∧ ∀ k ∈ ks, k < 1000000) = true) : PB n (ks.map fun k : Nat => dI k) := by
  have h := of_decide_eq_true h
  refine ⟨by rw [List.length_map]; exact h.1, fun x hx => ?_⟩
  obtain ⟨k, hk, rfl⟩ := List.mem_map.mp hx
  exact ⟨k, rfl, h.2 k hk⟩
theorem fb1 : FB dF1 := ⟨_, _, rfl, pb_ints (ks := [4, 0, 2, 0, 1, 1]) (by decide), by decide⟩
theorem fb2 : FB dF2 := ⟨_, _, rfl, pb_ints (ks := [4, 0, 2, 0, 2, 1]) (by decide), by decide⟩
theorem rzE : Rz 200 3 (.list [dF1, dF2]) := (RzL.cons fb1.rz (RzL.cons fb2.rz RzL.nil)).lst.mono (by omega) (by omega)
theorem end_run {x : V} {s2 s3 s4 s5 s6 s7 s8 s9 s10 s11 s12 s13 s14 s15 : SD} : tEnd { nx := fun _ => False, rt := fun d _ => d = .bool true } (lapS x s2 s3 s4 s5 s6 s7 s8 s9 s10 s11 s12 s13 s14 s15) := by
  unfold tEnd lapS
  walk_at "dv"
  repeat (with_reducible refine And.intro (le_line (by simp)) ?_)
  refine putD_lf rfl ?_
  try walk_at "dv"
  repeat (with_reducible refine And.intro (le_line (by simp)) ?_)
  refine w1 _ ⟨le_line (by simp), putD_own rfl fun q => ?_⟩
  try walk_at "dv"
  repeat (with_reducible refine And.intro (le_line (by simp)) ?_)
  refine putD_lf rfl ?_
  try walk_at "dv"
  repeat (with_reducible refine And.intro (le_line (by simp)) ?_)
  refine w2 _ ⟨lt_line (by decide), ?_⟩
  try walk_at "dv"
  refine rzE.rep (by omega) (by omega) ?_
  repeat (with_reducible refine And.intro (le_line (by simp)) ?_)
  refine rzE.rep (by omega) (by omega) ?_
  simp [eqD]
theorem sem_law : ∀ x, t_law { nx := fun _ => False, rt := fun d _ => d = .bool true } (.raw x :: .src :: List.replicate (N_law.length - 2) .un) := by
  intro x
  rw [show t_law = tdSeq (tdFor (tdRg1 (tdC (.int 3))) (putD 2) tLap) tEnd from rfl]
  rw [tdSeqE]
  generalize hT : tLap = T
  generalize hE : tEnd = U
  show tdFor _ _ _ _ (lapS x .un .un .un .un .un .un .un .un .un .un .un .un .un .un)
  walk_at "dv"
  refine ⟨by omega, by omega, ?_⟩
  subst hT hE
  exact lap_go _ rg_lf _ _ _ _ _ _ _ _ _ _ _ _ _ _ fun _ _ _ _ _ _ _ _ _ _ _ _ _ _ => end_run
end Lw

set_option Elab.async false
set_option linter.all false
set_option maxRecDepth 100000
set_option maxHeartbeats 4000000
namespace Lw
open PySem PySem.Spec PyProof.Rows L2 DL
local macro_rules | `(tactic| walk_at "dl") => `(tactic| simp (config := { maxSteps := 4000000 }) only [tdSeqE, tdSet, tdAsg, tdPar, tdPar3, tdLc, tdItVar, tdIt, tdEnum, tdRg1, tdRg2, tdFor, tdRet, tdRetVar, tdRetN, tdNext, tdIf, tdIfS, tdAnd, tdOr, tdNot, tdAndV, tdOrV, tdNotV, tdB, tdBin, tdChain, tdVar, tdC, tdLst, tdNil, tdCons, tdStar, tdTup, tdNeg, tdSl, tdO0, tdO1, tdRev, tdCall, tdCallS, tdCB, tdIsi, tdAppend, tdExtendA, tdAsgPop, tdPop, tdAppNotPop, tdParPop, tdSetIx, tdAug, eqD, inD, ixD, isN, addD, subD, mulD, modD, fdivD, ltD, leD, gtD, geD, lenD, tupD, listD, DL.intD, reprD, absD, c1, startD, startS, putD, List.map, List.replicate, List.length, wipeD, setZ, setS, List.getElem?_cons_zero, List.getElem?_cons_succ, List.cons_append, List.nil_append, List.append_nil, Nat.sub_self, Nat.reduceSub, Nat.reduceAdd, List.getElem?_nil, Bool.and_true, Bool.true_and, Bool.false_and, Bool.and_false, Bool.or_true, Bool.true_or, Bool.or_false, Bool.false_or, if_true, Bool.false_eq_true, if_false, true_and, and_true, Bool.true_xor, Bool.false_xor, at0, at1, at2, at3, at4, Option.some.injEq, exists_eq_left', Bool.not_true, true_or, or_true, Bool.not_false, id_eq, imp_self, implies_true, lfAll, lf])
local macro_rules | `(tactic| walk_at "kw") => `(tactic| simp (config := { maxSteps := 4000000 }) only [kw_any_flag, kw_any_not, kw_any_and, kw_any_or, kw_any_do, kw_any_go, kw_any_set, kw_any_clear, kw_flag_any, kw_flag_not, kw_flag_and, kw_flag_or, kw_flag_do, kw_flag_go, kw_flag_set, kw_flag_clear, kw_not_any, kw_not_flag, kw_not_and, kw_not_or, kw_not_do, kw_not_go, kw_not_set, kw_not_clear, kw_and_any, kw_and_flag, kw_and_not, kw_and_or, kw_and_do, kw_and_go, kw_and_set, kw_and_clear, kw_or_any, kw_or_flag, kw_or_not, kw_or_and, kw_or_do, kw_or_go, kw_or_set, kw_or_clear, kw_do_any, kw_do_flag, kw_do_not, kw_do_and, kw_do_or, kw_do_go, kw_do_set, kw_do_clear, kw_go_any, kw_go_flag, kw_go_not, kw_go_and, kw_go_or, kw_go_do, kw_go_set, kw_go_clear, kw_set_any, kw_set_flag, kw_set_not, kw_set_and, kw_set_or, kw_set_do, kw_set_go, kw_set_clear, kw_clear_any, kw_clear_flag, kw_clear_not, kw_clear_and, kw_clear_or, kw_clear_do, kw_clear_go, kw_clear_set, eq_self, decide_false, decide_true, Bool.false_eq_true, if_false, if_true, Bool.not_true, Bool.not_false, List.any_cons, List.any_nil, Bool.or_false, Bool.false_or, Bool.or_true, Bool.true_or, Bool.false_xor, Bool.true_xor, eqvS])
local macro_rules | `(tactic| walk_at "dv") => `(tactic| simp (config := { maxSteps := 4000000 }) only [tdSeqE, tdSet, tdAsg, tdPar, tdPar3, tdLc, tdItVar, tdIt, tdEnum, tdRg1, tdRg2, tdFor, tdRet, tdRetVar, tdRetN, tdNext, tdIf, tdIfS, tdAnd, tdOr, tdNot, tdAndV, tdOrV, tdNotV, tdB, tdBin, tdChain, tdVar, tdC, tdLst, tdNil, tdCons, tdStar, tdTup, tdNeg, tdSl, tdO0, tdO1, tdRev, tdCall, tdCallS, tdCB, tdIsi, tdAppend, tdExtendA, tdAsgPop, tdPop, tdAppNotPop, tdParPop, tdSetIx, tdAug, eqD, inD, ixD, isN, addD, subD, mulD, modD, fdivD, ltD, leD, gtD, geD, lenD, tupD, listD, DL.intD, absD, c1, startD, startS, List.map, List.replicate, List.length, wipeD, setZ, setS, List.getElem?_cons_zero, List.getElem?_cons_succ, List.cons_append, List.nil_append, List.append_nil, Nat.sub_self, Nat.reduceSub, Nat.reduceAdd, List.getElem?_nil, Bool.and_true, Bool.true_and, Bool.false_and, Bool.and_false, Bool.or_true, Bool.true_or, Bool.or_false, Bool.false_or, if_true, Bool.false_eq_true, if_false, true_and, and_true, Bool.true_xor, Bool.false_xor, at0, at1, at2, at3, at4, Option.some.injEq, exists_eq_left', Bool.not_true, true_or, or_true, Bool.not_false, id_eq, imp_self, implies_true, lfAll, lf])
theorem high_pos : ∀ c : Cd, 0 < c.high
  | .any => Nat.one_pos
  | .flag _ => Nat.one_pos
  | .not a => Nat.succ_pos _
  | .and a b | .or a b => Nat.succ_pos _
theorem zero_law_condition {ds : List D} {R : D → Bool → Prop} (h : g_law_condition 0 ds R) : False := by
  obtain ⟨_, _, _, h, _⟩ := h
  exact Nat.not_lt_zero _ h
theorem zero_law_holds {ds : List D} {R : D → Bool → Prop} (h : g_law_holds 0 ds R) : False := by
  obtain ⟨c, _, _, h, _⟩ := h
  have := high_pos c
  omega
theorem zero_law_parts {ds : List D} {R : D → Bool → Prop} (h : g_law_parts 0 ds R) : False := by
  obtain ⟨c, _, _, h, _⟩ := h
  have := high_pos c
  omega
end Lw

set_option Elab.async false
set_option linter.all false
set_option maxRecDepth 100000
set_option maxHeartbeats 0
namespace Lw
open PySem PySem.Spec PyProof.Rows L2 DL
def fa0 : List He.Fa := [.glo "_law_source", .glo "_law_pick", .glo "_law_mixed", .glo "first_named", .glo "is_act_told", .glo "wrong_act", .glo "first_twice", .glo "conditions_in", .glo "flags_looked_at", .glo "wrong_condition", .glo "used_up", .glo "wrong_deed", .glo "wrong_deeds", .glo "wrong_rule", .glo "wrong_program", .glo "parts_inmost_first", .glo "holds", .glo "first_stand", .glo "rules_of", .glo "first_acts", .glo "name_read", .glo "_law_of", .glo "_law_net", .glo "_law_doing", .glo "_law_texts", .glo "_law_cancels", .glo "_law_condition", .glo "_law_holds", .glo "_law_deeds", .glo "_law_flagged"]
def fa1 : List He.Fa := [.glo "_law_read", .glo "_law_parts", .glo "_law_flag_names", .glo "_law_twice", .glo "_law_acts_wrong", .glo "_law_rule_wrong", .glo "_law_wrong", .glo "_law_bent", .glo "_law_lots", .glo "law", .free "abs", .free "dict", .free "enumerate", .free "int", .free "len", .free "list", .free "max", .free "range", .free "repr", .free "sorted", .free "tuple", .glo "JOINED"]
def fa : List He.Fa := fa0 ++ fa1
def fn0 : List He.DefD := [dd "_law_source" s_law_source, dd "_law_pick" s_law_pick, dd "_law_mixed" s_law_mixed, dd "first_named" s_first_named, dd "is_act_told" s_is_act_told, dd "wrong_act" s_wrong_act, dd "first_twice" s_first_twice, dd "conditions_in" s_conditions_in, dd "flags_looked_at" s_flags_looked_at, dd "wrong_condition" s_wrong_condition, dd "used_up" s_used_up, dd "wrong_deed" s_wrong_deed, dd "wrong_deeds" s_wrong_deeds, dd "wrong_rule" s_wrong_rule, dd "wrong_program" s_wrong_program, dd "parts_inmost_first" s_parts_inmost_first, dd "holds" s_holds, dd "first_stand" s_first_stand, dd "rules_of" s_rules_of, dd "first_acts" s_first_acts, dd "name_read" s_name_read, dd "_law_of" s_law_of, dd "_law_net" s_law_net, dd "_law_doing" s_law_doing, dd "_law_texts" s_law_texts, dd "_law_cancels" s_law_cancels, dd "_law_condition" s_law_condition, dd "_law_holds" s_law_holds, dd "_law_deeds" s_law_deeds, dd "_law_flagged" s_law_flagged]
def fn1 : List He.DefD := [dd "_law_read" s_law_read, dd "_law_parts" s_law_parts, dd "_law_flag_names" s_law_flag_names, dd "_law_twice" s_law_twice, dd "_law_acts_wrong" s_law_acts_wrong, dd "_law_rule_wrong" s_law_rule_wrong, dd "_law_wrong" s_law_wrong, dd "_law_bent" s_law_bent, dd "_law_lots" s_law_lots, dd "law" s_law]
def fn : List He.DefD := fn0 ++ fn1
def tb : List (Str × List Str) := [("JOINED", ["not", "and", "or"])]
def loose0 : List Str := ["first_named", "is_act_told", "wrong_act", "first_twice", "conditions_in", "flags_looked_at", "wrong_condition", "used_up", "wrong_deed", "wrong_deeds", "wrong_rule", "wrong_program", "JOINED", "parts_inmost_first", "holds", "first_stand", "rules_of", "first_acts", "name_read", "_law_source", "_law_pick", "_law_of", "_law_mixed", "_law_net", "_law_doing", "_law_texts", "_law_cancels", "_law_condition", "_law_holds", "_law_flagged"]
def loose1 : List Str := ["_law_deeds", "_law_read", "_law_parts", "_law_flag_names", "_law_twice", "_law_acts_wrong", "_law_rule_wrong", "_law_wrong", "_law_bent", "_law_lots"]
def loose : List Str := loose0 ++ loose1
abbrev RowL : PySem.W.OpenRow := PySem.W.OpenLaw.row PySem.Challenge.rw_homedoings_k05_flags_conditions_first_ru
abbrev hk : PySem.W.Hook := hookX 4 fa fn tb
def ob (s : PySem.W.SharedT) : AlX := obsXG 4 fa fn tb (HandSHeadRun.getT s)
theorem ob_eq (s : PySem.W.SharedT) : ob s = hk.obs s.abs := obsXG_eq (HandSHeadRun.getT_eq s)
end Lw

set_option Elab.async false
set_option linter.all false
set_option maxRecDepth 100000
set_option maxHeartbeats 0
namespace Lw
open PySem PySem.Spec PyProof.Rows L2 DL
theorem run (w : World) : HandSHeadRun.RunEq RowL (PySem.W.view RowL.prog [43]) hk ob 3040 loose w := by
  intro os
  kernel_rfl
end Lw

set_option Elab.async false
set_option linter.all false
set_option maxRecDepth 100000
set_option maxHeartbeats 0
namespace Lw
open PySem PySem.Spec PyProof.Rows L2 DL
theorem facts {P : Program} {w : World} {K : PySem.W.Frag} {h : Heap} {mg : Str → Option Value} {f : Addr} (X : K.In h) (G : h.Ns mainGlobals mg) (hfa : mg ("law" : Str) = some (.ref f)) (c : SaysX fa fn tb K) :
    ∃ fd : FuncData, (∀ (s : Shared) (v : Value), BindsTo s fd ⟨[v], []⟩ [("script", v)]) ∧ ∀ base : Heap, K.In base → base.Ns mainGlobals mg → FnD P w K mg base CX0 11 f fd ["script"] (spLaw K) := by
  have R_law_source : Raw K mg "_law_source" s_law_source ["script"] := c.raw X G 0 0 fun fd F => F.binds fun _ _ _ _ _ _ us hl => match us, hl with | [_], _ => rfl
  have R_law_pick : Raw K mg "_law_pick" s_law_pick ["source", "many"] := c.raw X G 1 1 fun fd F => F.binds fun _ _ _ _ _ _ us hl => match us, hl with | [_, _], _ => rfl
  have R_law_mixed : Raw K mg "_law_mixed" s_law_mixed ["source", "things"] := c.raw X G 2 2 fun fd F => F.binds fun _ _ _ _ _ _ us hl => match us, hl with | [_, _], _ => rfl
  have R_first_named : Raw K mg "first_named" s_first_named p_first_named := c.raw X G 3 3 fun fd F => F.binds fun _ _ _ _ _ _ us hl => match us, hl with | [_], _ => rfl
  have R_is_act_told : Raw K mg "is_act_told" s_is_act_told p_is_act_told := c.raw X G 4 4 fun fd F => F.binds fun _ _ _ _ _ _ us hl => match us, hl with | [_, _], _ => rfl
  have R_wrong_act : Raw K mg "wrong_act" s_wrong_act p_wrong_act := c.raw X G 5 5 fun fd F => F.binds fun _ _ _ _ _ _ us hl => match us, hl with | [_, _, _], _ => rfl
  have R_first_twice : Raw K mg "first_twice" s_first_twice p_first_twice := c.raw X G 6 6 fun fd F => F.binds fun _ _ _ _ _ _ us hl => match us, hl with | [_], _ => rfl
  have R_conditions_in : Raw K mg "conditions_in" s_conditions_in p_conditions_in := c.raw X G 7 7 fun fd F => F.binds fun _ _ _ _ _ _ us hl => match us, hl with | [_, _], _ => rfl
  have R_flags_looked_at : Raw K mg "flags_looked_at" s_flags_looked_at p_flags_looked_at := c.raw X G 8 8 fun fd F => F.binds fun _ _ _ _ _ _ us hl => match us, hl with | [_], _ => rfl
  have R_wrong_condition : Raw K mg "wrong_condition" s_wrong_condition p_wrong_condition := c.raw X G 9 9 fun fd F => F.binds fun _ _ _ _ _ _ us hl => match us, hl with | [_, _, _], _ => rfl
  have R_used_up : Raw K mg "used_up" s_used_up p_used_up := c.raw X G 10 10 fun fd F => F.binds fun _ _ _ _ _ _ us hl => match us, hl with | [_], _ => rfl
  have R_wrong_deed : Raw K mg "wrong_deed" s_wrong_deed p_wrong_deed := c.raw X G 11 11 fun fd F => F.binds fun _ _ _ _ _ _ us hl => match us, hl with | [_, _, _], _ => rfl
  have R_wrong_deeds : Raw K mg "wrong_deeds" s_wrong_deeds p_wrong_deeds := c.raw X G 12 12 fun fd F => F.binds fun _ _ _ _ _ _ us hl => match us, hl with | [_, _, _], _ => rfl
  have R_wrong_rule : Raw K mg "wrong_rule" s_wrong_rule p_wrong_rule := c.raw X G 13 13 fun fd F => F.binds fun _ _ _ _ _ _ us hl => match us, hl with | [_, _, _, _], _ => rfl
  have R_wrong_program : Raw K mg "wrong_program" s_wrong_program p_wrong_program := c.raw X G 14 14 fun fd F => F.binds fun _ _ _ _ _ _ us hl => match us, hl with | [_, _, _], _ => rfl
  have R_parts_inmost_first : Raw K mg "parts_inmost_first" s_parts_inmost_first p_parts_inmost_first := c.raw X G 15 15 fun fd F => F.binds fun _ _ _ _ _ _ us hl => match us, hl with | [_], _ => rfl
  have R_holds : Raw K mg "holds" s_holds p_holds := c.raw X G 16 16 fun fd F => F.binds fun _ _ _ _ _ _ us hl => match us, hl with | [_, _], _ => rfl
  have R_first_stand : Raw K mg "first_stand" s_first_stand p_first_stand := c.raw X G 17 17 fun fd F => F.binds fun _ _ _ _ _ _ us hl => match us, hl with | [_], _ => rfl
  have R_rules_of : Raw K mg "rules_of" s_rules_of p_rules_of := c.raw X G 18 18 fun fd F => F.binds fun _ _ _ _ _ _ us hl => match us, hl with | [_, _], _ => rfl
  have R_first_acts : Raw K mg "first_acts" s_first_acts p_first_acts := c.raw X G 19 19 fun fd F => F.binds fun _ _ _ _ _ _ us hl => match us, hl with | [_, _, _], _ => rfl
  have R_name_read : Raw K mg "name_read" s_name_read p_name_read := c.raw X G 20 20 fun fd F => F.binds fun _ _ _ _ _ _ us hl => match us, hl with | [_, _, _], _ => rfl
  have R_law_of : Raw K mg "_law_of" s_law_of p_law_of := c.raw X G 21 21 fun fd F => F.binds fun _ _ _ _ _ _ us hl => match us, hl with | [_, _], _ => rfl
  have R_law_net : Raw K mg "_law_net" s_law_net p_law_net := c.raw X G 22 22 fun fd F => F.binds fun _ _ _ _ _ _ us hl => match us, hl with | [_], _ => rfl
  have R_law_doing : Raw K mg "_law_doing" s_law_doing p_law_doing := c.raw X G 23 23 fun fd F => F.binds fun _ _ _ _ _ _ us hl => match us, hl with | [_, _, _], _ => rfl
  have R_law_texts : Raw K mg "_law_texts" s_law_texts p_law_texts := c.raw X G 24 24 fun fd F => F.binds fun _ _ _ _ _ _ us hl => match us, hl with | [_, _], _ => rfl
  have R_law_cancels : Raw K mg "_law_cancels" s_law_cancels p_law_cancels := c.raw X G 25 25 fun fd F => F.binds fun _ _ _ _ _ _ us hl => match us, hl with | [_, _, _], _ => rfl
  have R_law_condition : Raw K mg "_law_condition" s_law_condition p_law_condition := c.raw X G 26 26 fun fd F => F.binds fun _ _ _ _ _ _ us hl => match us, hl with | [_, _, _], _ => rfl
  have R_law_holds : Raw K mg "_law_holds" s_law_holds p_law_holds := c.raw X G 27 27 fun fd F => F.binds fun _ _ _ _ _ _ us hl => match us, hl with | [_, _], _ => rfl
  have R_law_deeds : Raw K mg "_law_deeds" s_law_deeds p_law_deeds := c.raw X G 28 28 fun fd F => F.binds fun _ _ _ _ _ _ us hl => match us, hl with | [_, _, _, _], _ => rfl
  have R_law_flagged : Raw K mg "_law_flagged" s_law_flagged p_law_flagged := c.raw X G 29 29 fun fd F => F.binds fun _ _ _ _ _ _ us hl => match us, hl with | [_, _, _, _], _ => rfl
  have R_law_read : Raw K mg "_law_read" s_law_read p_law_read := c.raw X G 30 30 fun fd F => F.binds fun _ _ _ _ _ _ us hl => match us, hl with | [_, _, _], _ => rfl
  have R_law_parts : Raw K mg "_law_parts" s_law_parts p_law_parts := c.raw X G 31 31 fun fd F => F.binds fun _ _ _ _ _ _ us hl => match us, hl with | [_, _], _ => rfl
  have R_law_flag_names : Raw K mg "_law_flag_names" s_law_flag_names p_law_flag_names := c.raw X G 32 32 fun fd F => F.binds fun _ _ _ _ _ _ us hl => match us, hl with | [_], _ => rfl
  have R_law_twice : Raw K mg "_law_twice" s_law_twice p_law_twice := c.raw X G 33 33 fun fd F => F.binds fun _ _ _ _ _ _ us hl => match us, hl with | [_, _, _], _ => rfl
  have R_law_acts_wrong : Raw K mg "_law_acts_wrong" s_law_acts_wrong p_law_acts_wrong := c.raw X G 34 34 fun fd F => F.binds fun _ _ _ _ _ _ us hl => match us, hl with | [_, _, _], _ => rfl
  have R_law_rule_wrong : Raw K mg "_law_rule_wrong" s_law_rule_wrong p_law_rule_wrong := c.raw X G 35 35 fun fd F => F.binds fun _ _ _ _ _ _ us hl => match us, hl with | [_, _, _, _, _], _ => rfl
  have R_law_wrong : Raw K mg "_law_wrong" s_law_wrong p_law_wrong := c.raw X G 36 36 fun fd F => F.binds fun _ _ _ _ _ _ us hl => match us, hl with | [_, _, _], _ => rfl
  have R_law_bent : Raw K mg "_law_bent" s_law_bent p_law_bent := c.raw X G 37 37 fun fd F => F.binds fun _ _ _ _ _ _ us hl => match us, hl with | [_, _], _ => rfl
  have R_law_lots : Raw K mg "_law_lots" s_law_lots p_law_lots := c.raw X G 38 38 fun fd F => F.binds fun _ _ _ _ _ _ us hl => match us, hl with | [_], _ => rfl
  have x_abs : mg "abs" = none := c.free X G 40
  have x_dict : mg "dict" = none := c.free X G 41
  have x_enumerate : mg "enumerate" = none := c.free X G 42
  have x_int : mg "int" = none := c.free X G 43
  have x_len : mg "len" = none := c.free X G 44
  have x_list : mg "list" = none := c.free X G 45
  have x_max : mg "max" = none := c.free X G 46
  have x_range : mg "range" = none := c.free X G 47
  have x_repr : mg "repr" = none := c.free X G 48
  have x_sorted : mg "sorted" = none := c.free X G 49
  have x_tuple : mg "tuple" = none := c.free X G 50
  have c_JOINED : GC K mg "JOINED" (.tuple ((["not", "and", "or"] : List Str).map .str)) := c.tup X G 51 0 (fun y hy => by simp at hy; rcases hy with rfl | rfl | rfl <;> exact sok_of _)
  obtain ⟨fd, F⟩ := c.fun_ 39 (x := "law") (st := s_law)
  have e := hfa.symm.trans (c.glo X G 39)
  cases e
  have b : ∀ (s : Shared) (v : Value), BindsTo s fd ⟨[v], []⟩ [("script", v)] := by
    obtain ⟨oc, od, kV, doc, pm, an, cdv, ct, osl, rfl, lk, hcd⟩ := F.ex
    exact fun s v => .of_eq rfl
  refine ⟨fd, b, fun base _ _ => ?_⟩
  have O_law_source : Own P w K mg base 1 "_law_source" ["script"] (spSrc K) := own_law_source R_law_source x_int x_abs
  have O_law_pick : Own P w K mg base 1 "_law_pick" ["source", "many"] (spS K g_law_pick) := own_law_pick R_law_pick x_int x_len x_max
  have O_law_mixed : Own P w K mg base 2 "_law_mixed" ["source", "things"] (spS K g_law_mixed) := own_law_mixed R_law_mixed O_law_pick x_len x_list x_range
  have O_first_named : Own P w K mg base 1 "first_named" p_first_named (spD K g_first_named) := own_first_named R_first_named len_first_named sem_first_named
  have O_is_act_told : Own P w K mg base 1 "is_act_told" p_is_act_told (spD K g_is_act_told) := own_is_act_told R_is_act_told len_is_act_told sem_is_act_told
  have O_wrong_act : Own P w K mg base 2 "wrong_act" p_wrong_act (spD K g_wrong_act) := own_wrong_act R_wrong_act O_is_act_told x_enumerate len_wrong_act sem_wrong_act
  have O_first_twice : Own P w K mg base 1 "first_twice" p_first_twice (spD K g_first_twice) := own_first_twice R_first_twice x_enumerate len_first_twice sem_first_twice
  have O_conditions_in : Own P w K mg base 1 "conditions_in" p_conditions_in (spD K g_conditions_in) := own_conditions_in R_conditions_in x_len x_range len_conditions_in sem_conditions_in
  have O_flags_looked_at : Own P w K mg base 2 "flags_looked_at" p_flags_looked_at (spD K g_flags_looked_at) := own_flags_looked_at R_flags_looked_at O_conditions_in x_dict x_sorted x_tuple len_flags_looked_at sem_flags_looked_at
  have O_wrong_condition : Own P w K mg base 2 "wrong_condition" p_wrong_condition (spD K g_wrong_condition) := own_wrong_condition R_wrong_condition O_conditions_in len_wrong_condition sem_wrong_condition
  have O_used_up : Own P w K mg base 1 "used_up" p_used_up (spD K g_used_up) := own_used_up R_used_up len_used_up sem_used_up
  have O_wrong_deed : Own P w K mg base 3 "wrong_deed" p_wrong_deed (spD K g_wrong_deed) := own_wrong_deed R_wrong_deed O_wrong_act len_wrong_deed sem_wrong_deed
  have O_wrong_deeds : Own P w K mg base 4 "wrong_deeds" p_wrong_deeds (spD K g_wrong_deeds) := own_wrong_deeds R_wrong_deeds O_used_up O_wrong_deed x_enumerate len_wrong_deeds sem_wrong_deeds
  have O_wrong_rule : Own P w K mg base 5 "wrong_rule" p_wrong_rule (spD K g_wrong_rule) := own_wrong_rule R_wrong_rule O_wrong_condition O_wrong_deeds len_wrong_rule sem_wrong_rule
  have O_wrong_program : Own P w K mg base 6 "wrong_program" p_wrong_program (spD K g_wrong_program) := own_wrong_program R_wrong_program O_first_named O_first_twice O_wrong_act O_wrong_rule x_enumerate len_wrong_program sem_wrong_program
  have O_parts_inmost_first : Own P w K mg base 1 "parts_inmost_first" p_parts_inmost_first (spD K g_parts_inmost_first) := own_parts_inmost_first R_parts_inmost_first c_JOINED len_parts_inmost_first sem_parts_inmost_first
  have O_holds : Own P w K mg base 2 "holds" p_holds (spD K g_holds) := own_holds R_holds O_parts_inmost_first len_holds sem_holds
  have O_first_stand : Own P w K mg base 1 "first_stand" p_first_stand (spD K g_first_stand) := own_first_stand R_first_stand len_first_stand sem_first_stand
  have O_rules_of : Own P w K mg base 1 "rules_of" p_rules_of (spD K g_rules_of) := own_rules_of R_rules_of len_rules_of sem_rules_of
  have O_first_acts : Own P w K mg base 3 "first_acts" p_first_acts (spD K g_first_acts) := own_first_acts R_first_acts O_holds O_rules_of len_first_acts sem_first_acts
  have O_name_read : Own P w K mg base 4 "name_read" p_name_read (spD K g_name_read) := own_name_read R_name_read O_first_acts x_tuple len_name_read sem_name_read
  have O_law_of : Own P w K mg base 2 "_law_of" p_law_of (spS K g_law_of) := own_law_of R_law_of O_law_pick x_len len_law_of sem_law_of
  have O_law_net : Own P w K mg base 1 "_law_net" p_law_net (spD K g_law_net) := own_law_net R_law_net len_law_net sem_law_net
  have O_law_doing : Own P w K mg base 3 "_law_doing" p_law_doing (spS K g_law_doing) := own_law_doing R_law_doing O_law_net O_law_of O_law_pick x_range len_law_doing sem_law_doing
  have O_law_texts : Own P w K mg base 1 "_law_texts" p_law_texts (spD K g_law_texts) := own_law_texts R_law_texts x_tuple len_law_texts sem_law_texts
  have O_law_cancels : Own P w K mg base 3 "_law_cancels" p_law_cancels (spS K g_law_cancels) := own_law_cancels R_law_cancels O_law_of O_law_pick x_len x_range len_law_cancels sem_law_cancels
  have O_law_condition : Own P w K mg base 7 "_law_condition" p_law_condition (spS K (g_law_condition 5)) := by
    have z : ∀ n, Own P w K mg base (2 + n) "_law_condition" p_law_condition (spS K (g_law_condition n)) := by
      intro n
      induction n with
      | zero => exact (own_noneS R_law_condition).imp (spS_imp fun ds R h => zero_law_condition h)
      | succ n ih => exact own_law_condition (Nat.le_add_right _ _) R_law_condition ih O_law_of O_law_pick x_int x_list x_range x_tuple (len_law_condition (n + 1)) (sem_law_condition n)
    exact z 5
  have O_law_holds : Own P w K mg base 8 "_law_holds" p_law_holds (spD K (g_law_holds 8)) := by
    have z : ∀ n, Own P w K mg base (0 + n) "_law_holds" p_law_holds (spD K (g_law_holds n)) := by
      intro n
      induction n with
      | zero => exact (own_none R_law_holds).imp (spD_imp fun ds R h => zero_law_holds h)
      | succ n ih => exact own_law_holds (Nat.le_add_right _ _) R_law_holds ih (len_law_holds (n + 1)) (sem_law_holds n)
    exact z 8
  have O_law_deeds : Own P w K mg base 4 "_law_deeds" p_law_deeds (spS K g_law_deeds) := own_law_deeds R_law_deeds O_law_cancels O_law_doing O_law_mixed O_law_of O_law_pick O_law_texts x_int x_len x_list x_tuple len_law_deeds sem_law_deeds
  have O_law_flagged : Own P w K mg base 8 "_law_flagged" p_law_flagged (spS K g_law_flagged) := own_law_flagged R_law_flagged O_law_cancels O_law_condition O_law_deeds O_law_doing O_law_mixed O_law_of O_law_pick O_law_texts x_len x_range x_tuple len_law_flagged sem_law_flagged
  have O_law_read : Own P w K mg base 9 "_law_read" p_law_read (spD K g_law_read) := own_law_read R_law_read O_law_holds x_list x_tuple len_law_read sem_law_read
  have O_law_parts : Own P w K mg base 8 "_law_parts" p_law_parts (spD K (g_law_parts 8)) := by
    have z : ∀ n, Own P w K mg base (0 + n) "_law_parts" p_law_parts (spD K (g_law_parts n)) := by
      intro n
      induction n with
      | zero => exact (own_none R_law_parts).imp (spD_imp fun ds R h => zero_law_parts h)
      | succ n ih => exact own_law_parts (Nat.le_add_right _ _) R_law_parts ih x_len x_range (len_law_parts (n + 1)) (sem_law_parts n)
    exact z 8
  have O_law_flag_names : Own P w K mg base 9 "_law_flag_names" p_law_flag_names (spD K g_law_flag_names) := own_law_flag_names R_law_flag_names O_law_parts x_dict x_sorted x_tuple len_law_flag_names sem_law_flag_names
  have O_law_twice : Own P w K mg base 1 "_law_twice" p_law_twice (spD K g_law_twice) := own_law_twice R_law_twice x_enumerate len_law_twice sem_law_twice
  have O_law_acts_wrong : Own P w K mg base 1 "_law_acts_wrong" p_law_acts_wrong (spD K g_law_acts_wrong) := own_law_acts_wrong R_law_acts_wrong x_enumerate len_law_acts_wrong sem_law_acts_wrong
  have O_law_rule_wrong : Own P w K mg base 9 "_law_rule_wrong" p_law_rule_wrong (spD K g_law_rule_wrong) := own_law_rule_wrong R_law_rule_wrong O_law_acts_wrong O_law_parts x_enumerate x_int len_law_rule_wrong sem_law_rule_wrong
  have O_law_wrong : Own P w K mg base 10 "_law_wrong" p_law_wrong (spD K g_law_wrong) := own_law_wrong R_law_wrong O_law_acts_wrong O_law_rule_wrong O_law_twice x_enumerate len_law_wrong sem_law_wrong
  have O_law_bent : Own P w K mg base 3 "_law_bent" p_law_bent (spS K g_law_bent) := own_law_bent R_law_bent O_law_of O_law_pick x_len len_law_bent sem_law_bent
  have O_law_lots : Own P w K mg base 1 "_law_lots" p_law_lots (spD K g_law_lots) := own_law_lots R_law_lots len_law_lots sem_law_lots
  obtain ⟨f_law_bent, fd_law_bent, F_law_bent, m_law_bent, k_law_bent, b_law_bent⟩ := O_law_bent.ex
  obtain ⟨f_law_condition, fd_law_condition, F_law_condition, m_law_condition, k_law_condition, b_law_condition⟩ := O_law_condition.ex
  obtain ⟨f_law_flag_names, fd_law_flag_names, F_law_flag_names, m_law_flag_names, k_law_flag_names, b_law_flag_names⟩ := O_law_flag_names.ex
  obtain ⟨f_law_flagged, fd_law_flagged, F_law_flagged, m_law_flagged, k_law_flagged, b_law_flagged⟩ := O_law_flagged.ex
  obtain ⟨f_law_holds, fd_law_holds, F_law_holds, m_law_holds, k_law_holds, b_law_holds⟩ := O_law_holds.ex
  obtain ⟨f_law_lots, fd_law_lots, F_law_lots, m_law_lots, k_law_lots, b_law_lots⟩ := O_law_lots.ex
  obtain ⟨f_law_of, fd_law_of, F_law_of, m_law_of, k_law_of, b_law_of⟩ := O_law_of.ex
  obtain ⟨f_law_parts, fd_law_parts, F_law_parts, m_law_parts, k_law_parts, b_law_parts⟩ := O_law_parts.ex
  obtain ⟨f_law_pick, fd_law_pick, F_law_pick, m_law_pick, k_law_pick, b_law_pick⟩ := O_law_pick.ex
  obtain ⟨f_law_read, fd_law_read, F_law_read, m_law_read, k_law_read, b_law_read⟩ := O_law_read.ex
  obtain ⟨f_law_wrong, fd_law_wrong, F_law_wrong, m_law_wrong, k_law_wrong, b_law_wrong⟩ := O_law_wrong.ex
  obtain ⟨f_conditions_in, fd_conditions_in, F_conditions_in, m_conditions_in, k_conditions_in, b_conditions_in⟩ := O_conditions_in.ex
  obtain ⟨f_first_stand, fd_first_stand, F_first_stand, m_first_stand, k_first_stand, b_first_stand⟩ := O_first_stand.ex
  obtain ⟨f_flags_looked_at, fd_flags_looked_at, F_flags_looked_at, m_flags_looked_at, k_flags_looked_at, b_flags_looked_at⟩ := O_flags_looked_at.ex
  obtain ⟨f_holds, fd_holds, F_holds, m_holds, k_holds, b_holds⟩ := O_holds.ex
  obtain ⟨f_name_read, fd_name_read, F_name_read, m_name_read, k_name_read, b_name_read⟩ := O_name_read.ex
  obtain ⟨f_wrong_program, fd_wrong_program, F_wrong_program, m_wrong_program, k_wrong_program, b_wrong_program⟩ := O_wrong_program.ex
  exact law_d (t := t_law) F sc_law (O_law_source.up (by decide)) (by decide) rfl (fun f fs fds cdv A outer s H E hr hG Fs ms ks bs =>
    ps_set (i := 1) sc_law.nd rfl (by first | exact .inl rfl | exact .inr rfl) (pe_callD Fs hr hG ms ks bs pass0 (pa_cons (pv 0) pa_nil) (by rfl) (by decide) (by rfl) (by rfl)))
    (fun f cdv A outer s H E G hr hG =>
    (dss_cons (ds_for PassesOwn.never rfl (di_rg1 x_range de_int) (fun _ => (dg_name 2 sc_law.nd)) (fun _ => (dss_cons (ds_set 3 sc_law.nd (de_callS 1 F_law_of (hr.mono (by decide)) hG m_law_of k_law_of b_law_of pass0 (da_cons (de_lst (da_cons (de_tup (da_cons de_str da_nil)) (da_cons (de_tup (da_cons de_str (da_cons de_str da_nil))) (da_cons (de_tup (da_cons de_str (da_cons de_str da_nil))) da_nil)))) da_nil)))
    (dss_cons (ds_set 4 sc_law.nd (de_callS 1 F_law_of (hr.mono (by decide)) hG m_law_of k_law_of b_law_of pass0 (da_cons (de_lst (da_cons (de_tup (da_cons de_str da_nil)) (da_cons (de_tup (da_cons de_str (da_cons de_str da_nil))) (da_cons (de_tup (da_cons de_str (da_cons de_str da_nil))) da_nil)))) da_nil)))
    (dss_cons (ds_set 5 sc_law.nd (de_callS 1 F_law_flagged (hr.mono (by decide)) hG m_law_flagged k_law_flagged b_law_flagged pass0 (da_cons (de_var 3) (da_cons (de_var 4) (da_cons de_str da_nil)))))
    (dss_cons (ds_par 6 7 rfl sc_law.nd (de_callB (cd_repr hG hr.units) x_repr (by decide +kernel) (da_cons (de_var 5) da_nil)) (fun _ => (de_call F_law_lots (hr.mono (by decide)) hG m_law_lots k_law_lots b_law_lots pass0 (da_cons (de_ix (de_var 5) de_int) da_nil))))
    (dss_cons (ds_if (dw_or (dt_cmp od_isnot (nomark _) (de_call F_wrong_program (hr.mono (by decide)) hG m_wrong_program k_wrong_program b_wrong_program pass0 (da_cons (de_var 3) (da_cons (de_var 4) (da_cons (de_var 5) da_nil)))) de_non) (dw_or1 (dt_cmp od_isnot (nomark _) (de_call F_law_wrong (hr.mono (by decide)) hG m_law_wrong k_law_wrong b_law_wrong pass0 (da_cons (de_var 3) (da_cons (de_var 4) (da_cons (de_var 5) da_nil)))) de_non))).dt (dss_one (ds_ret de_bl)) dss_nil)
    (dss_cons (ds_if (dt_cmp (od_ne hr.units) (nomark _) (de_callB (cd_repr hG hr.units) x_repr (by decide +kernel) (da_cons (de_call F_first_stand (hr.mono (by decide)) hG m_first_stand k_first_stand b_first_stand pass0 (da_cons (de_var 5) da_nil)) da_nil)) (de_callB (cd_repr hG hr.units) x_repr (by decide +kernel) (da_cons (de_tup (da_cons (de_ix (de_ix (de_ix (de_var 5) de_int) de_int) de_int) (da_cons (de_tup da_nil) da_nil))) da_nil))) (dss_one (ds_ret de_bl)) dss_nil)
    (dss_cons (ds_for PassesOwn.never rfl (di_rg1 x_range de_int) (fun _ => (dg_name 8 sc_law.nd)) (fun _ => (dss_cons (ds_parC 9 10 rfl sc_law.nd (de_callS 1 F_law_condition (hr.mono (by decide)) hG m_law_condition k_law_condition b_law_condition pass0 (da_cons (de_ix (de_var 5) de_int) (da_cons de_int da_nil))) (fun _ => (de_callS 1 F_law_of (hr.mono (by decide)) hG m_law_of k_law_of b_law_of pass0 (da_cons (de_var 7) da_nil))))
    (dss_cons (ds_set 11 sc_law.nd (de_lst (da_cons (de_call F_conditions_in (hr.mono (by decide)) hG m_conditions_in k_conditions_in b_conditions_in pass0 (da_cons (de_var 9) (da_cons (de_tup (da_cons de_int da_nil)) da_nil))) (da_cons (de_call F_flags_looked_at (hr.mono (by decide)) hG m_flags_looked_at k_flags_looked_at b_flags_looked_at pass0 (da_cons (de_var 9) da_nil)) da_nil))))
    (dss_cons (ds_if (dt_cmp (od_ne hr.units) (nomark _) (de_callB (cd_repr hG hr.units) x_repr (by decide +kernel) (da_cons (de_var 11) da_nil)) (de_callB (cd_repr hG hr.units) x_repr (by decide +kernel) (da_cons (de_lst (da_cons (de_call F_law_parts (hr.mono (by decide)) hG m_law_parts k_law_parts b_law_parts pass0 (da_cons (de_var 9) (da_cons (de_tup (da_cons de_int da_nil)) da_nil))) (da_cons (de_call F_law_flag_names (hr.mono (by decide)) hG m_law_flag_names k_law_flag_names b_law_flag_names pass0 (da_cons (de_var 9) da_nil)) da_nil))) da_nil))) (dss_one (ds_ret de_bl)) dss_nil)
    (dss_cons (ds_if (dt_cmp (od_ne hr.units) (nomark _) (de_callB (cd_repr hG hr.units) x_repr (by decide +kernel) (da_cons (de_lc rfl sc_law.nd (blkOk_by (own := [("one", 16)]) (N := N_law) (sc := defScope s_law) (by decide +kernel)) (di_var 7) (fun _ _ _ _ _ _ => (dg_name 16 sc_law.nd)) (fun _ _ _ _ _ _ => dts_nil) (fun _ _ _ _ _ _ => (de_call F_holds (hr.mono (by decide)) hG m_holds k_holds b_holds pass0 (da_cons (de_var 9) (da_cons (de_var 16) da_nil))))) da_nil)) (de_callB (cd_repr hG hr.units) x_repr (by decide +kernel) (da_cons (de_lc rfl sc_law.nd (blkOk_by (own := [("one", 16)]) (N := N_law) (sc := defScope s_law) (by decide +kernel)) (di_var 7) (fun _ _ _ _ _ _ => (dg_name 16 sc_law.nd)) (fun _ _ _ _ _ _ => dts_nil) (fun _ _ _ _ _ _ => (de_call F_law_holds (hr.mono (by decide)) hG m_law_holds k_law_holds b_law_holds pass0 (da_cons (de_var 9) (da_cons (de_var 16) da_nil))))) da_nil))) (dss_one (ds_ret de_bl)) dss_nil)
    (dss_cons (ds_par 12 13 rfl sc_law.nd (de_tup (da_cons (de_callS 1 F_law_of (hr.mono (by decide)) hG m_law_of k_law_of b_law_of pass0 (da_cons (de_lc rfl sc_law.nd (blkOk_by (own := [("mode", 17)]) (N := N_law) (sc := defScope s_law) (by decide +kernel)) (di_any (de_ix (de_var 5) de_int)) (fun _ _ _ _ _ _ => (dg_name 17 sc_law.nd)) (fun _ _ _ _ _ _ => dts_nil) (fun _ _ _ _ _ _ => (de_ix (de_var 17) de_int))) da_nil)) (da_cons (de_var 10) da_nil))) (fun _ => (de_callS 1 F_law_of (hr.mono (by decide)) hG m_law_of k_law_of b_law_of pass0 (da_cons (de_var 3) da_nil))))
    (dss_one (ds_if (dt_cmp (od_ne hr.units) (nomark _) (de_callB (cd_repr hG hr.units) x_repr (by decide +kernel) (da_cons (de_call F_name_read (hr.mono (by decide)) hG m_name_read k_name_read b_name_read pass0 (da_cons (de_var 5) (da_cons (de_var 12) (da_cons (de_var 13) da_nil)))) da_nil)) (de_callB (cd_repr hG hr.units) x_repr (by decide +kernel) (da_cons (de_call F_law_read (hr.mono (by decide)) hG m_law_read k_law_read b_law_read pass0 (da_cons (de_var 5) (da_cons (de_var 12) (da_cons (de_var 13) da_nil)))) da_nil))) (dss_one (ds_ret de_bl)) dss_nil)))))))))
    (dss_cons (ds_for PassesOwn.never rfl (di_rg1 x_range de_int) (fun _ => (dg_name 8 sc_law.nd)) (fun _ => (dss_cons (ds_set 14 sc_law.nd (de_callS 1 F_law_bent (hr.mono (by decide)) hG m_law_bent k_law_bent b_law_bent pass0 (da_cons (de_var 5) da_nil)))
    (dss_cons (ds_set 14 sc_law.nd (de_if (dw_and (dt_cmp (od_eq hr.units) (nomark _) (de_callS 1 F_law_pick (hr.mono (by decide)) hG m_law_pick k_law_pick b_law_pick pass0 (da_cons de_int da_nil)) de_int) (dw_and1 (dt_chain od_lt od_lt de_int (de_callB cd_len x_len (by decide +kernel) (da_cons (de_ix (de_var 14) de_int) da_nil)) de_int))).dt (de_callS 1 F_law_bent (hr.mono (by decide)) hG m_law_bent k_law_bent b_law_bent pass0 (da_cons (de_var 14) da_nil)) (de_var 14)))
    (dss_one (ds_if (dt_cmp (od_ne hr.units) (nomark _) (de_callB (cd_repr hG hr.units) x_repr (by decide +kernel) (da_cons (de_call F_wrong_program (hr.mono (by decide)) hG m_wrong_program k_wrong_program b_wrong_program pass0 (da_cons (de_var 3) (da_cons (de_var 4) (da_cons (de_var 14) da_nil)))) da_nil)) (de_callB (cd_repr hG hr.units) x_repr (by decide +kernel) (da_cons (de_call F_law_wrong (hr.mono (by decide)) hG m_law_wrong k_law_wrong b_law_wrong pass0 (da_cons (de_var 3) (da_cons (de_var 4) (da_cons (de_var 14) da_nil)))) da_nil))) (dss_one (ds_ret de_bl)) dss_nil))))))
    (dss_one (ds_if (dt_cmp (od_ne hr.units) (nomark _) (de_callB (cd_repr hG hr.units) x_repr (by decide +kernel) (da_cons (de_var 5) da_nil)) (de_var 6)) (dss_one (ds_ret de_bl)) dss_nil))))))))))))
    (dss_cons (ds_set 15 sc_law.nd (de_tup (da_cons de_str (da_cons (de_tup (da_cons de_str (da_cons de_str da_nil))) (da_cons (de_tup (da_cons (de_tup (da_cons de_str (da_cons (de_tup (da_cons de_str da_nil)) da_nil))) da_nil)) da_nil)))))
    (dss_cons (ds_set 11 sc_law.nd (de_lst (da_cons (de_call F_wrong_program (hr.mono (by decide)) hG m_wrong_program k_wrong_program b_wrong_program pass0 (da_cons (de_tup (da_cons de_str da_nil)) (da_cons (de_tup (da_cons de_str da_nil)) (da_cons (de_tup (da_cons de_str (da_cons de_str (da_cons (de_tup da_nil) (da_cons (de_tup da_nil) (da_cons (de_tup (da_cons (de_tup (da_cons de_str (da_cons de_bl (da_cons (de_tup (da_cons (de_var 15) da_nil)) da_nil)))) da_nil)) da_nil)))))) da_nil)))) da_nil)))
    (dss_cons (ds_set 15 sc_law.nd (de_tup (da_cons de_str (da_cons (de_tup (da_cons de_str da_nil)) (da_cons (de_tup (da_cons (de_tup (da_cons de_str (da_cons (de_tup (da_cons de_str da_nil)) da_nil))) (da_cons (de_tup (da_cons de_str (da_cons (de_tup (da_cons de_str da_nil)) da_nil))) da_nil))) da_nil)))))
    (dss_cons (ds_append (pe_bm PySem.F.plainAttrs_list PySem.F.slot_list_append PySem.F.type_list_append mt_append (pv 11) (pa_cons (DE.pe (de_call F_wrong_program (hr.mono (by decide)) hG m_wrong_program k_wrong_program b_wrong_program pass0 (da_cons (de_tup (da_cons de_str da_nil)) (da_cons (de_tup (da_cons de_str da_nil)) (da_cons (de_tup (da_cons de_str (da_cons de_str (da_cons (de_tup da_nil) (da_cons (de_tup da_nil) (da_cons (de_tup (da_cons (de_tup (da_cons de_str (da_cons de_bl (da_cons (de_tup (da_cons (de_var 15) da_nil)) da_nil)))) da_nil)) da_nil)))))) da_nil))))) pa_nil)))
    (dss_one (ds_ret (de_cmp (od_eq hr.units) (nomark _) (de_callB (cd_repr hG hr.units) x_repr (by decide +kernel) (da_cons (de_var 11) da_nil)) (de_callB (cd_repr hG hr.units) x_repr (by decide +kernel) (da_cons (de_lst (da_cons (de_tup (da_cons (de_tup (da_cons de_int (da_cons de_int (da_cons de_int (da_cons de_int (da_cons de_int (da_cons de_int da_nil))))))) (da_cons de_str da_nil))) (da_cons (de_tup (da_cons (de_tup (da_cons de_int (da_cons de_int (da_cons de_int (da_cons de_int (da_cons de_int (da_cons de_int da_nil))))))) (da_cons de_str da_nil))) da_nil))) da_nil))))))))))) sem_law
end Lw

set_option Elab.async false
set_option linter.all false
set_option maxRecDepth 100000
set_option maxHeartbeats 0
open PySem PySem.W PySem.Calls PyProof.Rows
theorem PySem.Challenge.cw_homedoings_k05_flags_conditions_first_ru_holds : PySem.Challenge.rw_homedoings_k05_flags_conditions_first_ru.Holds := by
  w_on; o_law
  refine HandSHeadRun.head_any (r := OpenLaw.row PySem.Challenge.rw_homedoings_k05_flags_conditions_first_ru) (q := view (OpenLaw.row PySem.Challenge.rw_homedoings_k05_flags_conditions_first_ru).prog [43]) (H := Lw.hk) (ob := Lw.ob) (M := 3040) (loose := Lw.loose) (d := HandSHeadRun.topDef (OpenLaw.row PySem.Challenge.rw_homedoings_k05_flags_conditions_first_ru).prog 43) (kwd := []) Lw.ob_eq
    (by kernel_rfl) (fun s => by kernel_rfl) Lw.run (by kernel_rfl) (by kernel_rfl) (by kernel_rfl) (by rfl) (by first | assumption | decide +kernel) (by decide +kernel) ⟨rfl, rfl, rfl, rfl, rfl, by decide +kernel⟩ ?hw ?hc
  case hw => w_witness2
  case hc =>
    refine DL.walk_ofX (l := PySem.Challenge.rw_homedoings_k05_flags_conditions_first_ru) (n := 63) (k := 11) (x := "script") rfl (by decide) (by kernel_rfl) ⟨rfl, by decide, by decide⟩ ?F
    intro w mg fa h Y G hmg0
    obtain ⟨K, KX, c⟩ := Y
    have hmg : mg ("law" : PySem.Str) = some (.ref fa) := by
      have e : (HandSHeadRun.topDef (OpenLaw.row PySem.Challenge.rw_homedoings_k05_flags_conditions_first_ru).prog 43).name = ("law" : PySem.Str) := by kernel_rfl
      rw [← e]
      exact hmg0
    obtain ⟨fd, hb, hF⟩ := Lw.facts (P := (PySem.Challenge.rw_homedoings_k05_flags_conditions_first_ru).prog) (w := w) KX G hmg c
    exact ⟨K, fd, DL.spLaw K, KX, hb, fun H a ns hl _ _ hS => ⟨a, ns, rfl, hS, hl, fun _ => rfl⟩, hF⟩

