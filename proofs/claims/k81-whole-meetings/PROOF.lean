import PyProof.Rows.All
import HandS.DictComp
import HandS.IsInst
import Wide.All
import OpenK.AllK
import Wide.FinOn
import HandS.ForMost
import HandS.Defaults
import HandS.Words
import KE.KStateDown
import Lean
import HandS.Base
import HandS.Call
import HandS.Ends
import HandS.More
import HandS.WordsExc
import HandS.Head0
import HandS.Head1
import HandS.Head2
import HandS.HeadEnd
import HandS.HeadHook1
import HandS.HeadHook2
import PySem.Challenge.RW_shelflikes_k81_whole_meetings_by_all_cho
import KE.KeyNested
import KE.KDictKeyed
import HandS.TupAny
import HandS.Deep
import HandS.Style
import PyProof.SeqIndex
import HandS.Comp
import HandS.Walk
import HandS.Zip
import HandS.Iter
import HandS.Zip0
import KE.GoesMore
import KE.SortData
import PyProof.TupleOfSeq
import HandS.SetBool
import KE.KDictCopyH
import KE.KDictWalk
import HandS.DictTup
import KE.KDictDisplayH
import HandS.SetTxt0
import KE.GoesEnumKw
import PyProof.Rows.CallKwBuiltin

section
set_option Elab.async false
set_option linter.all false
set_option maxRecDepth 100000
set_option maxHeartbeats 0
namespace K81
open PySem PySem.Spec PyProof.Rows L2
def top (i : Nat) : Stmt := PySem.Challenge.pw_shelflikes_k81_whole_meetings_by_all_cho.main.body.getD i (.Pass ⟨0, 0, 0, 0⟩)
def mkD (x : Str) (i : Nat) : He.DefD := ⟨(x, none), x, x, defArgs (top i), defBody (top i), defScope (top i), [], []⟩
def fn : List He.DefD := [mkD "word_of" 4, mkD "kinds_in" 5, mkD "many_of" 6, mkD "look_alike" 8, mkD "ways_on" 10, mkD "ends_of" 11, mkD "rows_met" 12, mkD "meeting" 13, mkD "meets" 14,
  mkD "_law_box" 16, mkD "_law_take" 17, mkD "_law_pick" 18, mkD "_law_same" 19, mkD "_law_names" 20, mkD "_law_strewn" 21, mkD "_law_put_together" 22, mkD "_law_stand" 23, mkD "_law_sums" 24, mkD "_law_spots" 25, mkD "_law_all_spots" 26,
  mkD "_law_with" 27, mkD "_law_at_the_end" 28, mkD "_law_ways" 29, mkD "_law_behind" 30, mkD "_law_led" 31, mkD "_law_shared" 32, mkD "_law_word" 33, mkD "_law_is_in" 34, mkD "_law_tail" 35, mkD "_law_comes" 36, mkD "_law_lots" 37, mkD "_law_can_meet" 38, mkD "_law_right" 39, mkD "law" 40]
def fa : List He.Fa := [.glo "word_of", .glo "kinds_in", .glo "many_of", .glo "look_alike", .glo "ways_on", .glo "ends_of", .glo "rows_met", .glo "meeting", .glo "meets",
  .glo "_law_box", .glo "_law_take", .glo "_law_pick", .glo "_law_same", .glo "_law_names", .glo "_law_strewn", .glo "_law_put_together", .glo "_law_stand", .glo "_law_sums", .glo "_law_spots", .glo "_law_all_spots",
  .glo "_law_with", .glo "_law_at_the_end", .glo "_law_ways", .glo "_law_behind", .glo "_law_led", .glo "_law_shared", .glo "_law_word", .glo "_law_is_in", .glo "_law_tail", .glo "_law_comes", .glo "_law_lots", .glo "_law_can_meet", .glo "_law_right", .glo "law",
  .free "len", .free "tuple", .free "sorted", .free "sum", .free "zip", .free "min", .free "range", .free "abs", .free "int", .free "isinstance", .free "list", .free "bool", .free "str", .free "all", .free "any", .free "enumerate"]
abbrev R : PySem.W.OpenRow := PySem.W.OpenLaw.row PySem.Challenge.rw_shelflikes_k81_whole_meetings_by_all_cho
abbrev hk : PySem.W.Hook := He.hookD 4 fa fn
def ob (s : PySem.W.SharedT) : He.AlD := He.obsDG 4 fa fn (HandSHeadRun.getT s)
theorem ob_eq (s : PySem.W.SharedT) : ob s = hk.obs s.abs := He.obsDG_eq (HandSHeadRun.getT_eq s)
def names : List PySem.Str := [("__name__" : PySem.Str), ("OtherShelves" : PySem.Str), ("OtherBooks" : PySem.Str), ("word_of" : PySem.Str), ("kinds_in" : PySem.Str), ("many_of" : PySem.Str), ("look_alike" : PySem.Str), ("ways_on" : PySem.Str), ("ends_of" : PySem.Str), ("rows_met" : PySem.Str), ("meeting" : PySem.Str), ("meets" : PySem.Str),
  ("_law_box" : PySem.Str), ("_law_take" : PySem.Str), ("_law_pick" : PySem.Str), ("_law_same" : PySem.Str), ("_law_names" : PySem.Str), ("_law_strewn" : PySem.Str), ("_law_put_together" : PySem.Str), ("_law_stand" : PySem.Str), ("_law_sums" : PySem.Str), ("_law_spots" : PySem.Str), ("_law_all_spots" : PySem.Str),
  ("_law_with" : PySem.Str), ("_law_at_the_end" : PySem.Str), ("_law_ways" : PySem.Str), ("_law_behind" : PySem.Str), ("_law_led" : PySem.Str), ("_law_shared" : PySem.Str), ("_law_word" : PySem.Str), ("_law_is_in" : PySem.Str), ("_law_tail" : PySem.Str), ("_law_comes" : PySem.Str), ("_law_lots" : PySem.Str), ("_law_can_meet" : PySem.Str), ("_law_right" : PySem.Str)]
theorem run (w : World) : HandSHeadRun.RunEq R (PySem.W.view R.prog [40]) hk ob 3000 names w := by
  intro os
  kernel_rfl
end K81
end

section
set_option Elab.async false
set_option linter.all false
set_option maxRecDepth 100000
set_option maxHeartbeats 4000000
/-! K81 base: data made of numbers, texts and tuples (NestedKey), and what evaluates to what. -/
namespace K8
open PySem PySem.Spec PyProof.Rows L2
abbrev Dt := NestedKey

mutual
/-- the value v is the datum, tuples tracked -/
inductive Tp (H : Hp) : V → Dt → Prop
  | num (i : Int) : Tp H (.int i) (.num i)
  | txt (x : Str) : Tp H (.str x) (.text x)
  | tup {a : Addr} {xs : List V} {ds : List Dt} : Rd H a (.tup xs) → TpA H xs ds → Tp H (.ref a) (.tup ds)
inductive TpA (H : Hp) : List V → List Dt → Prop
  | nil : TpA H [] []
  | cons {v : V} {vs : List V} {d : Dt} {ds : List Dt} : Tp H v d → TpA H vs ds → TpA H (v :: vs) (d :: ds)
end
/-- the tuples stand as they stood -/
def Ts (H H' : Hp) : Prop := ∀ b xs, Rd H b (.tup xs) → Rd H' b (.tup xs)
theorem rd_up {H H' : Hp} (s : Same H H') {b : Addr} {u : HO} (h : Rd H b u) : Rd H' b u := by
  rcases h with h | ⟨o, h⟩
  · exact .inl (s b _ h)
  · exact .inr ⟨o, s b _ h⟩
/-- no tuple stands where something else does -/
theorem rd_ne {H : Hp} {b l : Addr} {xs : List V} {o : HO} (h : Rd H b (.tup xs)) (hl : H l = some o) (h1 : ∀ ys, o ≠ .tup ys) (h2 : ∀ q u, o ≠ .frz q u) : b ≠ l := by
  rintro rfl
  rcases h with h | ⟨q, h⟩
  · rw [hl] at h; exact h1 _ (Option.some.inj h)
  · rw [hl] at h; exact h2 _ _ (Option.some.inj h)
theorem rd_upd {H : Hp} {b l : Addr} {u w : HO} (h : Rd H b u) (n : b ≠ l) : Rd (upd H l w) b u := by
  rcases h with h | ⟨q, h⟩
  · exact .inl (by rw [upd_ne n]; exact h)
  · exact .inr ⟨q, by rw [upd_ne n]; exact h⟩
theorem Ts.refl (H : Hp) : Ts H H := fun _ _ h => h
theorem Ts.trans {H H1 H2 : Hp} (a : Ts H H1) (b : Ts H1 H2) : Ts H H2 := fun c xs h => b c xs (a c xs h)
theorem Ts.of {H H' : Hp} (s : Same H H') : Ts H H' := fun b xs h => rd_up s h
theorem Ts.lst {H : Hp} {l : Addr} {xs : List V} {o : HO} (hl : H l = some (.lst xs)) : Ts H (upd H l o) := fun b ys h => rd_upd h (rd_ne h hl (fun _ z => nomatch z) (fun _ _ z => nomatch z))
theorem Ts.ext {H : Hp} {l : Addr} {φ : Heap → Prop} {o : HO} (hl : H l = some (.ext φ)) : Ts H (upd H l o) := fun b ys h => rd_upd h (rd_ne h hl (fun _ z => nomatch z) (fun _ _ z => nomatch z))
theorem Ts.dk {H : Hp} {l : Addr} {kvs : List (Key × V)} {o : HO} (hl : H l = some (.dK kvs)) : Ts H (upd H l o) := fun b ys h => rd_upd h (rd_ne h hl (fun _ z => nomatch z) (fun _ _ z => nomatch z))
mutual
theorem Tp.mono {H H' : Hp} (t : Ts H H') : ∀ {v : V} {d : Dt}, Tp H v d → Tp H' v d
  | _, _, .num i => .num i
  | _, _, .txt x => .txt x
  | _, _, .tup h a => .tup (t _ _ h) (TpA.mono t a)
theorem TpA.mono {H H' : Hp} (t : Ts H H') : ∀ {vs : List V} {ds : List Dt}, TpA H vs ds → TpA H' vs ds
  | _, _, .nil => .nil
  | _, _, .cons h r => .cons (Tp.mono t h) (TpA.mono t r)
end
theorem Tp.up {H H' : Hp} {v : V} {d : Dt} (h : Tp H v d) (s : Same H H') : Tp H' v d := h.mono (Ts.of s)
theorem TpA.up {H H' : Hp} {vs : List V} {ds : List Dt} (h : TpA H vs ds) (s : Same H H') : TpA H' vs ds := h.mono (Ts.of s)
theorem TpA.length {H : Hp} : ∀ {vs : List V} {ds : List Dt}, TpA H vs ds → vs.length = ds.length
  | _, _, .nil => rfl
  | _, _, .cons _ r => congrArg (· + 1) r.length
theorem TpA.get {H : Hp} : ∀ {vs : List V} {ds : List Dt} {i : Nat} {d : Dt}, TpA H vs ds → ds[i]? = some d → ∃ v, vs[i]? = some v ∧ Tp H v d
  | _, _, _, _, .nil, e => by simp at e
  | _, _, 0, _, .cons h _, e => by simp at e; exact ⟨_, rfl, e ▸ h⟩
  | _, _, i + 1, d, .cons _ r, e => by
    obtain ⟨v, h1, h2⟩ := r.get (i := i) (d := d) (by simpa using e)
    exact ⟨v, by simpa using h1, h2⟩
theorem TpA.getV {H : Hp} : ∀ {vs : List V} {ds : List Dt} {i : Nat} {v : V}, TpA H vs ds → vs[i]? = some v → ∃ d, ds[i]? = some d ∧ Tp H v d
  | _, _, _, _, .nil, e => by simp at e
  | _, _, 0, _, .cons h _, e => by simp at e; exact ⟨_, rfl, e ▸ h⟩
  | _, _, i + 1, v, .cons _ r, e => by
    obtain ⟨d, h1, h2⟩ := r.getV (i := i) (v := v) (by simpa using e)
    exact ⟨d, by simpa using h1, h2⟩
theorem TpA.app {H : Hp} : ∀ {vs ws : List V} {ds es : List Dt}, TpA H vs ds → TpA H ws es → TpA H (vs ++ ws) (ds ++ es)
  | _, _, _, _, .nil, s => s
  | _, _, _, _, .cons h r, s => .cons h (r.app s)
theorem TpA.snoc {H : Hp} {vs : List V} {ds : List Dt} {v : V} {d : Dt} (h : TpA H vs ds) (t : Tp H v d) : TpA H (vs ++ [v]) (ds ++ [d]) := h.app (.cons t .nil)
theorem TpA.take {H : Hp} : ∀ {vs : List V} {ds : List Dt} (n : Nat), TpA H vs ds → TpA H (vs.take n) (ds.take n)
  | _, _, 0, _ => .nil
  | _, _, _ + 1, .nil => .nil
  | _, _, n + 1, .cons h r => .cons h (r.take n)
theorem TpA.drop {H : Hp} : ∀ {vs : List V} {ds : List Dt} (n : Nat), TpA H vs ds → TpA H (vs.drop n) (ds.drop n)
  | _, _, 0, h => h
  | _, _, _ + 1, .nil => .nil
  | _, _, n + 1, .cons _ r => r.drop n
theorem TpA.reverse {H : Hp} : ∀ {vs : List V} {ds : List Dt}, TpA H vs ds → TpA H vs.reverse ds.reverse
  | _, _, .nil => .nil
  | _, _, .cons h r => by
    rw [List.reverse_cons, List.reverse_cons]
    exact r.reverse.snoc h
theorem TpA.set {H : Hp} : ∀ {vs : List V} {ds : List Dt} {v : V} {d : Dt} (i : Nat), Tp H v d → TpA H vs ds → TpA H (vs.set i v) (ds.set i d)
  | _, _, _, _, _, _, .nil => .nil
  | _, _, _, _, 0, t, .cons _ r => .cons t r
  | _, _, _, _, i + 1, t, .cons h r => .cons h (r.set i t)
theorem TpA.erase {H : Hp} : ∀ {vs : List V} {ds : List Dt} (i : Nat), TpA H vs ds → TpA H (vs.eraseIdx i) (ds.eraseIdx i)
  | _, _, _, .nil => .nil
  | _, _, 0, .cons _ r => r
  | _, _, i + 1, .cons h r => .cons h (r.erase i)
theorem TpA.dropLast {H : Hp} {vs : List V} {ds : List Dt} (h : TpA H vs ds) : TpA H vs.dropLast ds.dropLast := by
  rw [List.dropLast_eq_take, List.dropLast_eq_take, h.length]
  exact h.take _
theorem TpA.inj {H : Hp} : ∀ {vs ws : List V} {ds : List Dt}, (∀ (v w : V) (d : Dt), d ∈ ds → Tp H v d → Tp H w d → v = w) → TpA H vs ds → TpA H ws ds → vs = ws
  | _, _, _, _, .nil, .nil => rfl
  | _, _, _, f, .cons h r, .cons h' r' => by
    rw [f _ _ _ List.mem_cons_self h h', TpA.inj (fun v w d hd => f v w d (List.mem_cons_of_mem _ hd)) r r']
theorem Tp.num_inv {H : Hp} {v : V} {i : Int} (h : Tp H v (.num i)) : v = .int i := by cases h; rfl
theorem Tp.txt_inv {H : Hp} {v : V} {x : Str} (h : Tp H v (.text x)) : v = .str x := by cases h; rfl
theorem Tp.tup_inv {H : Hp} {v : V} {ds : List Dt} (h : Tp H v (.tup ds)) : ∃ a xs, v = .ref a ∧ Rd H a (.tup xs) ∧ TpA H xs ds := by
  cases h with
  | tup h r => exact ⟨_, _, rfl, h, r⟩
theorem TpA.nil_inv {H : Hp} {vs : List V} (h : TpA H vs []) : vs = [] := by cases h; rfl
theorem TpA.cons_inv {H : Hp} {vs : List V} {d : Dt} {ds : List Dt} (h : TpA H vs (d :: ds)) : ∃ v ws, vs = v :: ws ∧ Tp H v d ∧ TpA H ws ds := by
  cases h with
  | cons h r => exact ⟨_, _, rfl, h, r⟩
theorem TpA.texts {H : Hp} : ∀ {vs : List V} {ks : List Str}, TpA H vs (ks.map NestedKey.text) → vs = ks.map V.str
  | _, [], h => h.nil_inv
  | _, k :: ks, h => by
    obtain ⟨v, ws, rfl, h1, h2⟩ := TpA.cons_inv (show TpA H _ (NestedKey.text k :: ks.map NestedKey.text) from h)
    rw [h1.txt_inv, TpA.texts h2]
    rfl
theorem TpA.ofTexts {H : Hp} : ∀ (ks : List Str), TpA H (ks.map V.str) (ks.map NestedKey.text)
  | [] => .nil
  | k :: ks => .cons (.txt k) (TpA.ofTexts ks)
theorem TpA.ofNums {H : Hp} : ∀ (ks : List Int), TpA H (ks.map V.int) (ks.map NestedKey.num)
  | [] => .nil
  | k :: ks => .cons (.num k) (TpA.ofNums ks)
theorem TpA.nums {H : Hp} : ∀ {vs : List V} {ks : List Int}, TpA H vs (ks.map NestedKey.num) → vs = ks.map V.int
  | _, [], h => h.nil_inv
  | _, k :: ks, h => by
    obtain ⟨v, ws, rfl, h1, h2⟩ := TpA.cons_inv (show TpA H _ (NestedKey.num k :: ks.map NestedKey.num) from h)
    rw [h1.num_inv, TpA.nums h2]
    rfl

/-! ### what keeps under growth -/
class Stb (G : Hp → Prop) : Prop where
  up : ∀ {H H' : Hp}, G H → Same H H' → G H'
instance (H : Hp) : Stb (Ts H) := ⟨fun h s => h.trans (Ts.of s)⟩
instance (H : Hp) : Stb (Same H) := ⟨fun h s => h.trans s⟩
instance (G G' : Hp → Prop) [a : Stb G] [b : Stb G'] : Stb (fun H => G H ∧ G' H) := ⟨fun h s => ⟨a.up h.1 s, b.up h.2 s⟩⟩
instance (a : Addr) (o : HO) : Stb (fun H => H a = some o) := ⟨fun h s => s _ _ h⟩
instance (v : V) (d : Dt) : Stb (fun H => Tp H v d) := ⟨fun h s => h.up s⟩
instance (vs : List V) (ds : List Dt) : Stb (fun H => TpA H vs ds) := ⟨fun h s => h.up s⟩

/-- evaluates to something that is R there -/
def EvR (G : Hp → Prop) (te : TE) (σ : L2.St) (R : V → Hp → Prop) : Prop := ∀ H1, G H1 → ∀ Q : VK, (∀ v H2, Same H1 H2 → R v H2 → Q v H2) → te σ H1 Q
/-- evaluates to the datum -/
def EvD (G : Hp → Prop) (te : TE) (σ : L2.St) (d : Dt) : Prop := EvR G te σ fun v H => Tp H v d
/-- to True or False -/
def EvB (G : Hp → Prop) (te : TE) (σ : L2.St) (b : Bool) : Prop := EvR G te σ fun v _ => v = .bl b
/-- to a new list of data -/
def EvL (G : Hp → Prop) (te : TE) (σ : L2.St) (ds : List Dt) : Prop := ∀ H1, G H1 → ∀ Q : VK, (∀ p vs H2, H1 p = none → Same H1 H2 → H2 p = some (.lst vs) → TpA H2 vs ds → Q (.ref p) H2) → te σ H1 Q
def EvT (G : Hp → Prop) (tt : TT) (σ : L2.St) (b : Bool) : Prop := ∀ H1, G H1 → ∀ Q : Bool → Hp → Prop, (∀ H2, Same H1 H2 → Q b H2) → tt σ H1 Q
def EvA (G : Hp → Prop) (ta : TA) (σ : L2.St) (ds : List Dt) : Prop := ∀ H1, G H1 → ∀ Q : List V → Hp → Prop, (∀ vs H2, Same H1 H2 → TpA H2 vs ds → Q vs H2) → ta σ H1 Q
def EvO (G : Hp → Prop) (to : TO) (σ : L2.St) (o : Option Int) : Prop := ∀ H1, G H1 → ∀ Q : Option Int → Hp → Prop, (∀ H2, Same H1 H2 → Q o H2) → to σ H1 Q
/-- a two-place operation -/
def RvD (G : Hp → Prop) (r : R2) (x y : Dt) (d : Dt) : Prop := ∀ v w H1, G H1 → Tp H1 v x → Tp H1 w y → ∀ Q : VK, (∀ u H2, Same H1 H2 → Tp H2 u d → Q u H2) → r v w H1 Q
def RvB (G : Hp → Prop) (r : R2) (x y : Dt) (b : Bool) : Prop := ∀ v w H1, G H1 → Tp H1 v x → Tp H1 w y → ∀ Q : VK, (∀ H2, Same H1 H2 → Q (.bl b) H2) → r v w H1 Q
section
variable {G : Hp → Prop} {te ta tb : TE} {tt tu : TT} {σ : L2.St} {d x y : Dt} {b : Bool} {K : PySem.W.Frag}

theorem EvR.mono {G' : Hp → Prop} {R : V → Hp → Prop} (h : EvR G te σ R) (g : ∀ H, G' H → G H) : EvR G' te σ R := fun H1 h1 => h H1 (g H1 h1)
theorem EvD.mono {G' : Hp → Prop} (h : EvD G te σ d) (g : ∀ H, G' H → G H) : EvD G' te σ d := fun H1 h1 => h H1 (g H1 h1)
theorem EvT.mono {G' : Hp → Prop} (h : EvT G tt σ b) (g : ∀ H, G' H → G H) : EvT G' tt σ b := fun H1 h1 => h H1 (g H1 h1)
theorem ed_var {i : Nat} {v : V} (h : σ[i]? = some (some v)) (t : ∀ H, G H → Tp H v d) : EvD G (tVar i) σ d := fun H1 g Q q => ⟨v, h, q v H1 (Same.refl _) (t H1 g)⟩
theorem er_var {i : Nat} {v : V} {R : V → Hp → Prop} (h : σ[i]? = some (some v)) (t : ∀ H, G H → R v H) : EvR G (tVar i) σ R := fun H1 g Q q => ⟨v, h, q v H1 (Same.refl _) (t H1 g)⟩
theorem ed_int {i : Int} : EvD G (tC (.int i)) σ (.num i) := fun H1 _ Q q => q _ H1 (Same.refl _) (.num i)
theorem ed_str {z : Str} : EvD G (tC (.str z)) σ (.text z) := fun H1 _ Q q => q _ H1 (Same.refl _) (.txt z)
theorem eb_c : EvB G (tC (.bl b)) σ b := fun H1 _ Q q => q _ H1 (Same.refl _) rfl
theorem ea_nil : EvA G tNil σ [] := fun H1 _ Q q => q _ H1 (Same.refl _) .nil
theorem ea_cons [Stb G] {tr : TA} {ds : List Dt} (h : EvD G te σ d) (hr : EvA G tr σ ds) : EvA G (tCons te tr) σ (d :: ds) := fun H1 g Q q =>
  h H1 g _ fun v H2 s2 t2 => hr H2 (Stb.up g s2) _ fun vs H3 s3 t3 => q _ H3 (s2.trans s3) (.cons (t2.up s3) t3)
theorem same_new {H : Hp} {p : Addr} {o : HO} (h : H p = none) : Same H (upd H p o) := fun b u e => by
  rw [upd_ne (ne_of_none e h)]; exact e
theorem tp_new {H : Hp} {p : Addr} {vs : List V} {ds : List Dt} (h : H p = none) (t : TpA H vs ds) : Tp (upd H p (.tup vs)) (.ref p) (.tup ds) :=
  .tup (.inl upd_same) (t.up (same_new h))
theorem ed_tup {tA : TA} {ds : List Dt} (h : EvA G tA σ ds) (hl : ds.length ≤ 100000) : EvD G (tTup tA) σ (.tup ds) := fun H1 g Q q =>
  h H1 g _ fun vs H2 s2 t2 => ⟨by rw [t2.length, sizeLine_eq]; omega, fun p hp => q _ _ (s2.trans (same_new hp)) (tp_new hp t2)⟩
theorem el_lst {tA : TA} {ds : List Dt} (h : EvA G tA σ ds) (hl : ds.length ≤ 100000) : EvL G (tLst tA) σ ds := fun H1 g Q q =>
  h H1 g _ fun vs H2 s2 t2 => ⟨by rw [t2.length, sizeLine_eq]; omega, fun p hp => q p vs _ (s2.free hp) (s2.trans (same_new hp)) upd_same (t2.up (same_new hp))⟩
theorem ed_op [Stb G] {r : R2} (ha : EvD G ta σ x) (hb : EvD G tb σ y) (hr : RvD G r x y d) : EvD G (tOp r ta tb) σ d := fun H1 g Q q =>
  ha H1 g _ fun v H2 s2 t2 => hb H2 (Stb.up g s2) _ fun w H3 s3 t3 => hr v w H3 (Stb.up g (s2.trans s3)) (t2.up s3) t3 Q fun u H4 s4 t4 => q u H4 ((s2.trans s3).trans s4) t4
theorem eb_op [Stb G] {r : R2} (ha : EvD G ta σ x) (hb : EvD G tb σ y) (hr : RvB G r x y b) : EvB G (tOp r ta tb) σ b := fun H1 g Q q =>
  ha H1 g _ fun v H2 s2 t2 => hb H2 (Stb.up g s2) _ fun w H3 s3 t3 => hr v w H3 (Stb.up g (s2.trans s3)) (t2.up s3) t3 Q fun H4 s4 => q _ H4 ((s2.trans s3).trans s4) rfl
theorem et_test (h : EvB G te σ b) : EvT G (tTest te) σ b := fun H1 g Q q => h H1 g _ fun v H2 s2 e => ⟨b, e, q H2 s2⟩
theorem et_b (h : EvB G te σ b) : EvT G (tB te) σ b := fun H1 g Q q => h H1 g _ fun v H2 s2 e => ⟨b, e, q H2 s2⟩
theorem et_cmp [Stb G] {r : R2} (ha : EvD G ta σ x) (hb : EvD G tb σ y) (hr : RvB G r x y b) : EvT G (tTest (tOp r ta tb)) σ b := et_test (eb_op ha hb hr)
theorem et_and [Stb G] {a c : Bool} (h1 : EvT G tt σ a) (h2 : a = true → EvT G tu σ c) : EvT G (tAnd tt tu) σ (a && c) := fun H1 g Q q =>
  h1 H1 g _ fun H2 s2 => by
    cases a with
    | true => exact h2 rfl H2 (Stb.up g s2) Q fun H3 s3 => q H3 (s2.trans s3)
    | false => exact q H2 s2
theorem et_or [Stb G] {a c : Bool} (h1 : EvT G tt σ a) (h2 : a = false → EvT G tu σ c) : EvT G (tOr tt tu) σ (a || c) := fun H1 g Q q =>
  h1 H1 g _ fun H2 s2 => by
    cases a with
    | false => exact h2 rfl H2 (Stb.up g s2) Q fun H3 s3 => q H3 (s2.trans s3)
    | true => exact q H2 s2
theorem et_not {a : Bool} (h : EvT G tt σ a) : EvT G (tNot tt) σ (!a) := fun H1 g Q q => h H1 g _ fun H2 s2 => q H2 s2
theorem et_yes : EvT G tYes σ true := fun H1 _ Q q => q H1 (Same.refl _)
theorem EvT.to {c : Bool} (h : EvT G tt σ b) (e : b = c) : EvT G tt σ c := e ▸ h
theorem EvD.to {e : Dt} (h : EvD G te σ d) (q : d = e) : EvD G te σ e := q ▸ h
theorem EvL.to {ds es : List Dt} (h : EvL G te σ ds) (q : ds = es) : EvL G te σ es := q ▸ h
theorem EvB.to {c : Bool} (h : EvB G te σ b) (e : b = c) : EvB G te σ c := e ▸ h
theorem ed_if [Stb G] {a : Bool} (h : EvT G tt σ a) (h1 : a = true → EvD G ta σ d) (h2 : a = false → EvD G tb σ d) : EvD G (tIf tt ta tb) σ d := fun H1 g Q q =>
  h H1 g _ fun H2 s2 => by
    cases a with
    | true => exact h1 rfl H2 (Stb.up g s2) Q fun v H3 s3 t3 => q v H3 (s2.trans s3) t3
    | false => exact h2 rfl H2 (Stb.up g s2) Q fun v H3 s3 t3 => q v H3 (s2.trans s3) t3
/-- bools as values -/
theorem eb_and [Stb G] {a c : Bool} (h1 : EvB G ta σ a) (h2 : a = true → EvB G tb σ c) : EvB G (tAndV ta tb) σ (a && c) := fun H1 g Q q =>
  h1 H1 g _ fun v H2 s2 e => ⟨a, e, by
    cases a with
    | true => exact h2 rfl H2 (Stb.up g s2) Q fun w H3 s3 e3 => q w H3 (s2.trans s3) e3
    | false => exact q _ H2 s2 rfl⟩
theorem eb_or [Stb G] {a c : Bool} (h1 : EvB G ta σ a) (h2 : a = false → EvB G tb σ c) : EvB G (tOrV ta tb) σ (a || c) := fun H1 g Q q =>
  h1 H1 g _ fun v H2 s2 e => ⟨a, e, by
    cases a with
    | false => exact h2 rfl H2 (Stb.up g s2) Q fun w H3 s3 e3 => q w H3 (s2.trans s3) e3
    | true => exact q _ H2 s2 rfl⟩
/-! ### operations -/
theorem rd_I0 {f : Int → Int → Int} {i j : Int} : RvD G (rI0 fun i j => .int (f i j)) (.num i) (.num j) (.num (f i j)) := fun v w H1 g tv tw Q q =>
  ⟨i, j, tv.num_inv, tw.num_inv, q _ H1 (Same.refl _) (.num _)⟩
theorem rd_I {C : Int → Int → Prop} {f : Int → Int → Int} {i j : Int} (hc : C i j) : RvD G (rI C fun i j => .int (f i j)) (.num i) (.num j) (.num (f i j)) := fun v w H1 g tv tw Q q =>
  ⟨i, j, tv.num_inv, tw.num_inv, hc, q _ H1 (Same.refl _) (.num _)⟩
theorem rb_I0 {f : Int → Int → Bool} {i j : Int} : RvB G (rI0 fun i j => .bl (f i j)) (.num i) (.num j) (f i j) := fun v w H1 g tv tw Q q =>
  ⟨i, j, tv.num_inv, tw.num_inv, q H1 (Same.refl _)⟩
theorem rb_eqS {i j : Str} : RvB G rEq (.text i) (.text j) (decide (i = j)) := fun v w H1 g tv tw Q q => by
  rw [tv.txt_inv, tw.txt_inv]
  refine ⟨rfl, ?_⟩
  have e : decide (V.str i = V.str j) = decide (i = j) := by by_cases h : i = j <;> simp [h]
  rw [e]
  exact q H1 (Same.refl _)
theorem rb_neS {i j : Str} : RvB G rNe (.text i) (.text j) (!decide (i = j)) := fun v w H1 g tv tw Q q => by
  rw [tv.txt_inv, tw.txt_inv]
  refine ⟨rfl, ?_⟩
  have e : decide (V.str i = V.str j) = decide (i = j) := by by_cases h : i = j <;> simp [h]
  rw [e]
  exact q H1 (Same.refl _)
theorem rb_eqI {i j : Int} : RvB G rEq (.num i) (.num j) (decide (i = j)) := fun v w H1 g tv tw Q q => by
  rw [tv.num_inv, tw.num_inv]
  refine ⟨rfl, ?_⟩
  have e : decide (V.int i = V.int j) = decide (i = j) := by by_cases h : i = j <;> simp [h]
  rw [e]
  exact q H1 (Same.refl _)
theorem rb_neI {i j : Int} : RvB G rNe (.num i) (.num j) (!decide (i = j)) := fun v w H1 g tv tw Q q => by
  rw [tv.num_inv, tw.num_inv]
  refine ⟨rfl, ?_⟩
  have e : decide (V.int i = V.int j) = decide (i = j) := by by_cases h : i = j <;> simp [h]
  rw [e]
  exact q H1 (Same.refl _)
/-- atI over data -/
theorem TpA.atI {H : Hp} {vs : List V} {ds : List Dt} {i : Int} (h : TpA H vs ds) (e : atI ds i = some d) : ∃ v, L2.atI vs i = some v ∧ Tp H v d := by
  unfold L2.atI at e ⊢
  rw [h.length]
  cases q : ixN ds.length i with
  | none => rw [q] at e; simp at e
  | some j =>
    rw [q] at e
    obtain ⟨v, h1, h2⟩ := h.get (i := j) (d := d) (by simpa using e)
    exact ⟨v, by simpa using h1, h2⟩
theorem rd_ixT {ds : List Dt} {i : Int} (e : atI ds i = some d) : RvD G (rIxT K) (.tup ds) (.num i) d := fun v w H1 g tv tw Q q => by
  obtain ⟨a, xs, rfl, ha, hx⟩ := tv.tup_inv
  obtain ⟨u, h1, h2⟩ := hx.atI e
  rw [tw.num_inv]
  exact ⟨a, xs, i, u, rfl, rfl, (.inl ha), h1, q u H1 (Same.refl _) h2⟩
theorem ed_ix [Stb G] {ds : List Dt} {i : Int} (ha : EvD G ta σ (.tup ds)) (hb : EvD G tb σ (.num i)) (e : atI ds i = some d) : EvD G (tOp (rIxT K) ta tb) σ d := ed_op ha hb (rd_ixT e)
/-- t[k], k written -/
theorem ed_ixc [Stb G] {ds : List Dt} {i : Int} (ha : EvD G ta σ (.tup ds)) (e : atI ds i = some d) : EvD G (tOp (rIxT K) ta (tC (.int i))) σ d := ed_op ha ed_int (rd_ixT e)
theorem rd_cat {ds es : List Dt} (hl : ds.length + es.length ≤ 100000) : RvD G (rCatA K) (.tup ds) (.tup es) (.tup (ds ++ es)) := fun v w H1 g tv tw Q q => by
  obtain ⟨a, xs, rfl, ha, hx⟩ := tv.tup_inv
  obtain ⟨b, ys, rfl, hb, hy⟩ := tw.tup_inv
  have l1 := hx.length
  have l2 := hy.length
  refine ⟨a, b, xs, ys, rfl, rfl, (.inl ha), (.inl hb), by rw [sizeLine_eq]; omega, fun e => ?_, fun _ e => ?_, fun _ _ p hp => ?_⟩
  · subst e
    cases hx
    exact q _ H1 (Same.refl _) (.tup hb hy)
  · subst e
    obtain rfl : es = [] := List.eq_nil_of_length_eq_zero (by simpa using l2.symm)
    have z : Tp H1 (.ref a) (.tup ds) := .tup ha hx
    exact q _ H1 (Same.refl _) (by simpa using z)
  · exact q _ _ (same_new hp) (tp_new hp (hx.app hy))
theorem eo_none : EvO G tNoPart σ none := fun H1 _ Q q => q H1 (Same.refl _)
theorem eo_some {i : Int} (h : EvD G te σ (.num i)) : EvO G (tPart te) σ (some i) := fun H1 g Q q => h H1 g _ fun v H2 s2 t2 => ⟨i, t2.num_inv, q H2 s2⟩
/-- the data of a slice -/
def cutD (xs : List Dt) (lo hi : Option Int) : List Dt := (xs.drop (HT.sIx xs.length 0 lo)).take (HT.sIx xs.length xs.length hi - HT.sIx xs.length 0 lo)
theorem TpA.cut {H : Hp} {vs : List V} {ds : List Dt} (h : TpA H vs ds) (lo hi : Option Int) : TpA H (cutV vs lo hi) (cutD ds lo hi) := by
  unfold cutV cutD
  rw [h.length]
  exact (h.drop _).take _
theorem ed_sl [Stb G] {tl th : TO} {ds : List Dt} {lo hi : Option Int} (h : EvD G te σ (.tup ds)) (h1 : EvO G tl σ lo) (h2 : EvO G th σ hi) : EvD G (tSl (rSlA K) te tl th) σ (.tup (cutD ds lo hi)) := fun H1 g Q q =>
  h H1 g _ fun v H2 s2 t2 => h1 H2 (Stb.up g s2) _ fun H3 s3 => h2 H3 (Stb.up g (s2.trans s3)) _ fun H4 s4 => by
    obtain ⟨a, xs, rfl, ha, hx⟩ := (t2.up (s3.trans s4)).tup_inv
    refine ⟨a, xs, rfl, (.inl ha), fun e => ?_, fun e p hp => ?_⟩
    · refine q _ H4 ((s2.trans s3).trans s4) ?_
      have z := hx.cut lo hi
      have e2 : cutV xs lo hi = xs := by
        unfold cutV
        rw [e.1, e.2]
        simp
      rw [e2] at z
      exact .tup ha z
    · exact q _ _ (((s2.trans s3).trans s4).trans (same_new hp)) (tp_new hp (hx.cut lo hi))
theorem sIx_nat (n d k : Nat) : HT.sIx n d (some (k : Int)) = min k n := HT.sIx_nat n d k
theorem cut_from (xs : List Dt) (k : Nat) : cutD xs (some (k : Int)) none = xs.drop k := by
  unfold cutD
  rw [sIx_nat]
  show (xs.drop (min k xs.length)).take (xs.length - min k xs.length) = _
  by_cases h : k ≤ xs.length
  · rw [Nat.min_eq_left h, List.take_of_length_le (by rw [List.length_drop]; omega)]
  · rw [Nat.min_eq_right (by omega), List.drop_of_length_le (Nat.le_refl _), List.drop_of_length_le (by omega)]
    simp
theorem cut_to (xs : List Dt) (k : Nat) : cutD xs none (some (k : Int)) = xs.take k := by
  unfold cutD
  rw [sIx_nat]
  show (xs.drop 0).take (min k xs.length - 0) = _
  rw [List.drop_zero, Nat.sub_zero]
  by_cases h : k ≤ xs.length
  · rw [Nat.min_eq_left h]
  · rw [Nat.min_eq_right (by omega), List.take_of_length_le (Nat.le_refl _), List.take_of_length_le (by omega)]
/-! ### membership -/
theorem eqV_str (a b : Str) : eqV (.str a) (.str b) = decide (a = b) := by
  show (a == b) = _
  by_cases h : a = b <;> simp [h]
theorem inV_texts (k : Str) : ∀ ks : List Str, inV (.str k) (ks.map V.str) = decide (k ∈ ks)
  | [] => by simp [inV]
  | x :: ks => by
    have ih := inV_texts k ks
    unfold inV at ih ⊢
    rw [List.map_cons, List.any_cons, ih, eqV_str]
    by_cases h : x = k
    · simp [h]
    · have h' : ¬ k = x := fun z => h z.symm
      by_cases h2 : k ∈ ks <;> simp [h, h', h2]
theorem all_flat_texts : ∀ ks : List Str, (ks.map V.str).all flatV = true
  | [] => rfl
  | _ :: ks => by rw [List.map_cons, List.all_cons, all_flat_texts ks]; rfl
theorem rb_in {k : Str} {ks : List Str} : RvB G (rIn K false) (.text k) (.tup (ks.map NestedKey.text)) (decide (k ∈ ks)) := fun v w H1 g tv tw Q q => by
  obtain ⟨a, xs, rfl, ha, hx⟩ := tw.tup_inv
  obtain rfl := hx.texts
  rw [tv.txt_inv]
  refine ⟨a, _, rfl, .inr ((.inl ha)), rfl, all_flat_texts ks, ?_⟩
  show Q (.bl (inV _ _)) H1
  rw [inV_texts]
  exact q H1 (Same.refl _)
theorem rb_nin {k : Str} {ks : List Str} : RvB G (rIn K true) (.text k) (.tup (ks.map NestedKey.text)) (!decide (k ∈ ks)) := fun v w H1 g tv tw Q q => by
  obtain ⟨a, xs, rfl, ha, hx⟩ := tw.tup_inv
  obtain rfl := hx.texts
  rw [tv.txt_inv]
  refine ⟨a, _, rfl, .inr ((.inl ha)), rfl, all_flat_texts ks, ?_⟩
  show Q (.bl (!inV _ _)) H1
  rw [inV_texts]
  exact q H1 (Same.refl _)
/-! ### len, calls -/
theorem ed_cb {r : List V → Hp → VK → Prop} {tA : TA} {ds : List Dt} (h : EvA G tA σ ds) (hr : ∀ vs H1, TpA H1 vs ds → ∀ Q : VK, (∀ v H2, Same H1 H2 → Tp H2 v d → Q v H2) → r vs H1 Q) : EvD G (tCB r tA) σ d := fun H1 g Q q =>
  h H1 g _ fun vs H2 s2 t2 => hr vs H2 t2 Q fun v H3 s3 t3 => q v H3 (s2.trans s3) t3
abbrev rLenX (K : PySem.W.Frag) : List V → Hp → VK → Prop := fun xs H Q => ∃ p ys, xs = [.ref p] ∧ (SqL K H p ys ∨ SqT K H p ys) ∧ Q (.int ys.length) H
theorem ed_len [Stb G] {ds : List Dt} (h : EvD G te σ (.tup ds)) : EvD G (tCB (rLenX K) (tCons te tNil)) σ (.num (ds.length : Int)) :=
  ed_cb (ea_cons h ea_nil) fun vs H1 t Q q => by
    obtain ⟨v, ws, rfl, t1, t2⟩ := t.cons_inv
    obtain rfl := t2.nil_inv
    obtain ⟨a, xs, rfl, ha, hx⟩ := t1.tup_inv
    refine ⟨a, xs, rfl, .inr ((.inl ha)), ?_⟩
    rw [hx.length]
    exact q _ H1 (Same.refl _) (.num _)
/-- a pure def: from data to a datum -/
def SpD (sp : Sp) (ds : List Dt) (d : Dt) : Prop := ∀ vs H, TpA H vs ds → ∀ (Q : VK) (E : XK), (∀ v H', Same H H' → Tp H' v d → Q v H') → sp vs H Q E
def SpL (sp : Sp) (ds : List Dt) (es : List Dt) : Prop := ∀ vs H, TpA H vs ds → ∀ (Q : VK) (E : XK), (∀ p ws H', H p = none → Same H H' → H' p = some (.lst ws) → TpA H' ws es → Q (.ref p) H') → sp vs H Q E
def SpR (sp : Sp) (ds : List Dt) (R : V → Hp → Prop) : Prop := ∀ vs H, TpA H vs ds → ∀ (Q : VK) (E : XK), (∀ v H', Same H H' → R v H' → Q v H') → sp vs H Q E
theorem ed_call {sp : Sp} {E : XK} {tA : TA} {ds : List Dt} (h : EvA G tA σ ds) (hs : SpD sp ds d) : EvD G (tCall sp [] E tA) σ d := fun H1 g Q q =>
  h H1 g _ fun vs H2 s2 t2 => hs (vs ++ []) H2 (by rw [List.append_nil]; exact t2) Q E fun v H3 s3 t3 => q v H3 (s2.trans s3) t3
theorem er_call {sp : Sp} {E : XK} {tA : TA} {ds : List Dt} {R : V → Hp → Prop} (h : EvA G tA σ ds) (hs : SpR sp ds R) : EvR G (tCall sp [] E tA) σ R := fun H1 g Q q =>
  h H1 g _ fun vs H2 s2 t2 => hs (vs ++ []) H2 (by rw [List.append_nil]; exact t2) Q E fun v H3 s3 t3 => q v H3 (s2.trans s3) t3
theorem el_call {sp : Sp} {E : XK} {tA : TA} {ds es : List Dt} (h : EvA G tA σ ds) (hs : SpL sp ds es) : EvL G (tCall sp [] E tA) σ es := fun H1 g Q q =>
  h H1 g _ fun vs H2 s2 t2 => hs (vs ++ []) H2 (by rw [List.append_nil]; exact t2) Q E fun p ws H3 n3 s3 e3 t3 => q p ws H3 (s2.free n3) (s2.trans s3) e3 t3
/-! ### statements -/
variable {D : Ends} {H : Hp} {i : Nat} {tu2 tw2 : TS}
theorem q_asgD (h : EvD G te σ d) (g : G H) (k : ∀ v H1, Same H H1 → Tp H1 v d → D.nx (σ.set i (some v)) H1) : tAsg te (gName i) D σ H := h H g _ fun v H1 s t => k v H1 s t
theorem q_asgR {R : V → Hp → Prop} (h : EvR G te σ R) (g : G H) (k : ∀ v H1, Same H H1 → R v H1 → D.nx (σ.set i (some v)) H1) : tAsg te (gName i) D σ H := h H g _ fun v H1 s t => k v H1 s t
theorem q_asgL {ds : List Dt} (h : EvL G te σ ds) (g : G H) (k : ∀ p vs H1, H p = none → Same H H1 → H1 p = some (.lst vs) → TpA H1 vs ds → D.nx (σ.set i (some (.ref p))) H1) : tAsg te (gName i) D σ H :=
  h H g _ fun p vs H1 n s e t => k p vs H1 n s e t
theorem q_retD (h : EvD G te σ d) (g : G H) (k : ∀ v H1, Same H H1 → Tp H1 v d → D.rt v H1) : tRet te D σ H := h H g _ fun v H1 s t => k v H1 s t
theorem q_retR {R : V → Hp → Prop} (h : EvR G te σ R) (g : G H) (k : ∀ v H1, Same H H1 → R v H1 → D.rt v H1) : tRet te D σ H := h H g _ fun v H1 s t => k v H1 s t
theorem q_retL {ds : List Dt} (h : EvL G te σ ds) (g : G H) (k : ∀ p vs H1, H p = none → Same H H1 → H1 p = some (.lst vs) → TpA H1 vs ds → D.rt (.ref p) H1) : tRet te D σ H := h H g _ fun p vs H1 n s e t => k p vs H1 n s e t
theorem q_if (h : EvT G tt σ b) (g : G H) (h1 : b = true → ∀ H1, Same H H1 → tu2 D σ H1) (h2 : b = false → ∀ H1, Same H H1 → tw2 D σ H1) : tIfS tt tu2 tw2 D σ H :=
  h H g _ fun H1 s => by
    cases b with
    | true => exact h1 rfl H1 s
    | false => exact h2 rfl H1 s
end
end K8
end

section
set_option Elab.async false
set_option linter.all false
set_option maxRecDepth 100000
set_option maxHeartbeats 4000000
/-! K81: t[::-1], words (tuples of texts with no dict of their own): tuple(list), slices, index. -/
namespace K8
open PySem PySem.Spec PyProof.Rows L2
section
variable {prog : Program} {w : World} {A : Around} {E : Value → Shared → Prop} {s : Shared}
theorem adjust_back (n : Nat) : Builtin.Slice.sliceAdjust none none (-1) (n : Int) = ((n : Int) - 1, -1) := by
  unfold Builtin.Slice.sliceAdjust
  have h1 : ((-1 : Int) < 0) := by omega
  simp only [h1, if_true]
theorem places_back (n : Nat) : Builtin.Slice.slicePlaces ((n : Int) - 1) (-1) (-1) = n := by
  unfold Builtin.Slice.slicePlaces
  have h1 : ¬ ((-1 : Int) > 0) := by omega
  simp only [h1, if_false]
  have e : (-(-1) : Int) = 1 := by decide
  rw [e]
  split
  · rw [Int.ediv_one]; omega
  · omega
theorem pick_back (xs : Array Value) : ((List.range xs.size).filterMap fun (m : Nat) => xs[(((xs.size : Int) - 1) + (m : Int) * (-1)).toNat]?).toArray = xs.toList.reverse.toArray := by
  congr 1
  have e1 : (List.range xs.size).filterMap (fun (m : Nat) => xs[(((xs.size : Int) - 1) + (m : Int) * (-1)).toNat]?) = (List.range xs.size).filterMap (fun m => xs.toList.reverse[m]?) := by
    have cg : ∀ (l : List Nat) (f g : Nat → Option Value), (∀ m ∈ l, f m = g m) → l.filterMap f = l.filterMap g := by
      intro l f g
      induction l with
      | nil => intro _; rfl
      | cons m l ih =>
        intro h
        rw [List.filterMap_cons, List.filterMap_cons, h m (by simp), ih fun k hk => h k (by simp [hk])]
    refine cg _ _ _ fun m hm => ?_
    have hm := List.mem_range.mp hm
    have e : (((xs.size : Int) - 1) + (m : Int) * (-1)).toNat = xs.size - 1 - m := by omega
    rw [e, List.getElem?_reverse (by rw [Array.length_toList]; exact hm)]
    rw [Array.length_toList, Array.getElem?_toList]
  rw [e1]
  have key : ∀ (l : List Value) (k : Nat), k ≤ l.length → (List.range k).filterMap (fun m => l[m]?) = l.take k := by
    intro l k
    induction k with
    | zero => intro _; rfl
    | succ k ih =>
      intro h
      have hlt : k < l.length := h
      rw [List.range_succ, List.filterMap_append, ih (by omega), List.take_add_one]
      simp [List.getElem?_eq_getElem hlt]
  rw [key _ _ (by rw [List.length_reverse, Array.length_toList]; exact Nat.le_refl _)]
  exact List.take_of_length_le (by rw [List.length_reverse, Array.length_toList]; exact Nat.le_refl _)
theorem getItem_tuple_back {t sl : Addr} {items : Array Value} {tk : Tok} {Q : Value → Shared → Prop} (ht : IsTup s.heap t items) (hs : s.heap.IsSliceOf sl .none .none (.int (-1) tk))
    (h : Q (.ref s.heap.objs.size) { s with heap := s.heap.push { cls := .type "tuple", data := .seq items.toList.reverse.toArray } })
    (hsz : items.size ≤ sizeLine) : wpAny (model prog w) A (getItem (.ref t) (.ref sl)) Q E s := by
  have htake : sizeOk (.seq items.toList.reverse.toArray) := by
    show items.toList.reverse.toArray.size ≤ sizeLine
    rw [List.size_toArray, List.length_reverse, Array.length_toList]
    omega
  obtain ⟨os, hos, hcs, hds⟩ := id hs
  have hTs : s.TypeIs (.ref sl) "slice" := ⟨os, hos, hcs⟩
  unfold getItem
  try with_reducible refine wpAny_holding ?_
  first | refine wpAny_bind (wpAny_pure ?_) | skip
  refine wpAny_bind (wpAny_sequenceKey ht.typeIs (by decide) ?_)
  refine wpAny_bind (wpAny_callSpecial?_slot (name := Str.ofString "__getitem__") ht.typeIs PyProof.Rows.slot_tuple_getitem
    (wpAny_call_entry PyProof.Rows.slot_tuple_getitem ht.typeIs entry_tuple_getitem ?_ (args_tuple_getitem _ _)))
  show wpAny _ _ (Builtin.Tuple.tupleItemsOf (.ref t) >>= _) _ _ s
  refine wpAny_bind (tupleItemsOf_ ht ?_)
  refine wpAny_bind (wpAny_typeOf hTs ?_)
  rw [if_pos (by decide)]
  refine wpAny_bind ?_
  unfold Builtin.Slice.sliceApplied Builtin.Slice.sliceFields
  refine wpAny_bind (wpAny_bind (wpAny_field hos hds (x := .none) rfl (wpAny_bind (wpAny_field hos hds (x := .none) rfl (wpAny_bind (wpAny_field hos hds (x := .int (-1) tk) rfl (wpAny_pure ?_)))))))
  refine wpAny_bind (slicePart_int ?_)
  show wpAny _ _ (if ((-1 : Int) == 0) = true then _ else _) _ _ s
  rw [if_neg (by decide)]
  refine wpAny_bind (slicePart_none (wpAny_bind (slicePart_none (wpAny_bind (wpAny_pure ?_)))))
  show wpAny _ _ (match Builtin.Slice.sliceAdjust none none (-1) (items.size : Int) with | (lo, hi) => pure (lo, (-1 : Int), Builtin.Slice.slicePlaces lo hi (-1))) _ _ s
  rw [adjust_back]
  show wpAny _ _ (pure ((items.size : Int) - 1, (-1 : Int), Builtin.Slice.slicePlaces ((items.size : Int) - 1) (-1) (-1))) _ _ s
  rw [places_back]
  refine wpAny_pure ?_
  have hno : ¬ ((((items.size : Int) - 1) == 0 && (-1 : Int) == 1 && items.size == items.size) = true) := by
    intro q
    rw [Bool.and_eq_true, Bool.and_eq_true] at q
    have q1 : (-1 : Int) = 1 := eq_of_beq q.1.2
    omega
  show wpAny _ _ (if (((items.size : Int) - 1) == 0 && (-1 : Int) == 1 && items.size == items.size) = true then _ else _) _ _ s
  rw [if_neg hno, pick_back]
  first
    | exact wpAny_bind (m := Builtin.Tuple.tupleExact _) (wpAny_newObj_type (wpAny_pure ⟨_, rfl, wpAny_pure h⟩) htake)
    | exact wpAny_bind (m := Builtin.Tuple.tupleExact _) (wpAny_newObj_type (wpAny_bind (wpAny_pure (wpAny_pure ⟨_, rfl, wpAny_pure h⟩))) htake)
    | exact wpAny_bind (wpAny_bind (m := Builtin.Tuple.tupleExact _) (wpAny_newObj_type (wpAny_pure (wpAny_pure ⟨_, rfl, wpAny_pure h⟩)) htake))
    | exact wpAny_bind (wpAny_bind (m := Builtin.Tuple.tupleExact _) (wpAny_newObj_type (wpAny_pure ⟨_, rfl, wpAny_pure h⟩) htake))
end
section
variable {X : Cx}
/-- t[::-1] -/
def tRevT (K : PySem.W.Frag) (te : TE) : TE := fun σ H Q => te σ H fun x H1 => ∃ a xs, x = .ref a ∧ SqT K H1 a xs ∧ ∀ p, H1 p = none → Q (.ref p) (upd H1 p (.tup xs.reverse))
theorem pe_revT {e : Expr} {te : TE} {k : Nat} {p1 p2 p3 pos : Pos} (he : PE X e te) : PE X (.Subscript e (.Slice none none (some (.UnaryOp .USub (.Constant (.int 1) k p1) p2)) p3) pos) (tRevT X.K te) := by
  refine ⟨fun pins s σ H Q I h => ?_⟩
  refine Subscript_ (thn (he.run pins s σ H _ I h) fun v s1 ⟨x, H1, I1, r1, q1⟩ => ?_)
  obtain ⟨a, xs, ex, hx, q⟩ := q1
  subst ex
  cases r1
  have hst : PO X (some (.UnaryOp .USub (.Constant (.int 1) k p1) p2)) (tPart (tUn (rU fun i => .int (-i)) (tC (.int 1)))) := po_some (pe_un un_neg pe_int)
  refine wpAny_Slice (thn (po_none.run pins s1 σ H1 (fun o H2 => o = none ∧ H2 = H1) I1 ⟨rfl, rfl⟩) fun vl s2 ⟨l, H2, I2, pl, el, e2⟩ => ?_)
  subst el e2
  refine thn (po_none.run pins s2 σ H2 (fun o H3 => o = none ∧ H3 = H2) I2 ⟨rfl, rfl⟩) fun vu s3 ⟨u, H3, I3, pu, eu, e3⟩ => ?_
  subst eu e3
  refine thn (hst.run pins s3 σ H3 (fun o H4 => o = some (-1) ∧ H4 = H3) I3 ⟨1, rfl, -1, rfl, rfl, rfl⟩) fun vs s4 ⟨o, H4, I4, ps, eo, e4⟩ => ?_
  subst eo e4
  cases pl
  cases pu
  obtain ⟨tk, rfl⟩ : ∃ tk, vs = .int (-1) tk := by cases ps; exact ⟨_, rfl⟩
  have I5 : Inv X pins σ H4 { s4 with heap := s4.heap.push { cls := .type "slice", data := .fields #[.none, .none, .int (-1) tk] } } := I4.kept (t' := s4.toks) fun b ob q => Heap.get?_push_of_some _ q
  obtain ⟨its, r, ht, hz⟩ := I5.tuple hx
  have hlen := r.length
  show wpAny (model X.prog X.w) X.A (subscriptTail e (.Slice none none (some (.UnaryOp .USub (.Constant (.int 1) k p1) p2)) p3) (.ref a) (.ref s4.heap.objs.size)) (EP X pins σ Q) X.xe { s4 with heap := s4.heap.push { cls := .type "slice", data := .fields #[.none, .none, .int (-1) tk] } }
  refine tail_any (ops := [.ref a, .ref s4.heap.objs.size]) ht.typeIs (PyProof.Rows.slot_tuple_getitem.lookup) ?_ (by with_unfolding_all rfl)
  refine getItem_tuple_back ht (Heap.IsSliceOf.new _ .none .none (.int (-1) tk)) ?_ (by rw [List.size_toArray]; omega)
  refine ⟨.ref _, _, I5.laid (t' := s4.toks) (o := .tup xs.reverse) (fun b ob q => Heap.get?_push_of_some _ q) (Nat.le_refl _) ?_, rfl, q _ (I5.hok.fresh (Nat.le_refl _))⟩
  exact ⟨by rw [List.length_reverse]; exact hz, _, r.reverse, IsTup.new _ _⟩

/-! ### words: tuples of texts whose object has no dict -/
def Wt (H : Hp) (a : Addr) (xs : List V) : Prop := ∃ o, H a = some (.frz o (.tup xs)) ∧ o.dict = none
def Wd (H : Hp) (v : V) (ks : List Str) : Prop := ∃ a, v = .ref a ∧ Wt H a (ks.map V.str)
theorem Wt.rd {H : Hp} {a : Addr} {xs : List V} (h : Wt H a xs) : Rd H a (.tup xs) := let ⟨o, e, _⟩ := h; .inr ⟨o, e⟩
theorem Wt.up {H H' : Hp} {a : Addr} {xs : List V} (h : Wt H a xs) (s : Same H H') : Wt H' a xs := let ⟨o, e, d⟩ := h; ⟨o, s _ _ e, d⟩
theorem Wd.up {H H' : Hp} {v : V} {ks : List Str} (h : Wd H v ks) (s : Same H H') : Wd H' v ks := let ⟨a, e, q⟩ := h; ⟨a, e, q.up s⟩
instance (v : V) (ks : List Str) : Stb (fun H => Wd H v ks) := ⟨fun h s => h.up s⟩
theorem Wd.tp {H : Hp} {v : V} {ks : List Str} (h : Wd H v ks) : Tp H v (.tup (ks.map NestedKey.text)) := by
  obtain ⟨a, rfl, q⟩ := h
  exact .tup q.rd (TpA.ofTexts ks)
/-- words stay -/
def Fs (H H' : Hp) : Prop := ∀ b o xs, H b = some (.frz o (.tup xs)) → H' b = some (.frz o (.tup xs))
theorem Fs.of {H H' : Hp} (s : Same H H') : Fs H H' := fun b o xs e => s _ _ e
theorem Fs.trans {H H1 H2 : Hp} (a : Fs H H1) (b : Fs H1 H2) : Fs H H2 := fun c o xs e => b c o xs (a c o xs e)
theorem Fs.upd {H : Hp} {l : Addr} {o u : HO} (hl : H l = some o) (hn : ∀ q xs, o ≠ .frz q (.tup xs)) : Fs H (L2.upd H l u) := fun b q xs e => by
  by_cases hb : b = l
  · subst hb; rw [e] at hl; exact absurd (Option.some.inj hl).symm (hn q xs)
  · rw [upd_ne hb]; exact e
theorem Wd.fs {H H' : Hp} {v : V} {ks : List Str} (h : Wd H v ks) (s : Fs H H') : Wd H' v ks := let ⟨a, e, o, q, d⟩ := h; ⟨a, e, o, s _ _ _ q, d⟩
theorem wt_new {H : Hp} {p : Addr} {xs : List V} {o : Obj} (hd : o.dict = none) : Wt (upd H p (.frz o (.tup xs))) p xs := ⟨o, by simp [upd], hd⟩
/-- tuple(list), the object known -/
theorem call_tuple_ofF : CallR X (.type "tuple") (fun xs H Q => ∃ p ys, xs = [.ref p] ∧ SqL X.K H p ys ∧ ∀ l o, H l = none → o.dict = none → Q (.ref l) (upd H l (.frz o (.tup ys)))) := by
  intro pins s σ H xs us Q I r h
  obtain ⟨p, ys, rfl, hq, q⟩ := h
  obtain ⟨u, rfl, rx⟩ := vals1 r
  cases rx
  obtain ⟨its, r', pl, hz⟩ := I.list hq
  have hlen := r'.length
  refine call_tuple_list pl.isList (fun h' kp => ?_) (by simp only [List.size_toArray] <;> omega)
  have I1 : Inv X pins σ H { s with heap := h' } := I.kept (t' := s.toks) kp
  have I2 : Inv X pins σ (upd H h'.objs.size (.frz { cls := .type "tuple", data := .seq its.toArray } (.tup ys))) { s with heap := h'.push { cls := .type "tuple", data := .seq its.toArray } } :=
    I1.laid (t' := s.toks) (fun b o e => Heap.get?_push_of_some _ e) (Nat.le_refl _) (show ObjOk X.prog X.w _ _ _ (.frz _ (.tup ys)) from ⟨Heap.get?_push_size _ rfl, hz, its, r', IsTup.new _ _⟩)
  exact ⟨.ref h'.objs.size, _, I2, rfl, q _ _ (I1.hok.fresh (Nat.le_refl _)) rfl⟩
/-- a slice of a word -/
def rSlF : V → Option Int → Option Int → Hp → VK → Prop := fun x lo hi H Q => ∃ a xs, x = .ref a ∧ Wt H a xs ∧ ∀ p H', Same H H' → Wt H' p (cutV xs lo hi) → Q (.ref p) H'
theorem cutV_whole {xs : List V} {lo hi : Option Int} (hw : HT.sIx xs.length 0 lo = 0 ∧ HT.sIx xs.length xs.length hi = xs.length) : cutV xs lo hi = xs := by
  show (xs.drop (HT.sIx xs.length 0 lo)).take (HT.sIx xs.length xs.length hi - HT.sIx xs.length 0 lo) = xs
  rw [hw.1, hw.2]
  simp
theorem sl_tupF : SlR X rSlF := by
  intro pins s σ H x v vl vu lo hi sl Q I rx hs pl pu h
  obtain ⟨a, xs, rfl, hx, q⟩ := h
  cases rx
  obtain ⟨its, r, ht, hz⟩ := I.tuple (.inl hx.rd)
  have hlen : its.toArray.size = xs.length := by rw [List.size_toArray]; exact r.length.symm
  refine ⟨"tuple", _, PyProof.Rows.slot_tuple_getitem.lookup, ht.typeIs, ?_⟩
  by_cases hw : HT.sIx xs.length 0 lo = 0 ∧ HT.sIx xs.length xs.length hi = xs.length
  · exact getItem_tuple_whole ht hs pl pu (by rw [hlen]; exact hw) ⟨.ref a, H, I, rfl, q a H (Same.refl _) (by rw [cutV_whole hw]; exact hx)⟩
  · refine HT.getItem_tuple_cut ht hs pl pu (by rw [hlen]; exact hw) ?_ (by rw [hlen]; exact hz)
    rw [hlen]
    have hf : H s.heap.objs.size = none := I.hok.fresh (Nat.le_refl _)
    refine ⟨.ref s.heap.objs.size, _, I.laid (t' := s.toks) (o := .frz _ (.tup (cutV xs lo hi))) (fun b ob q => Heap.get?_push_of_some _ q) (Nat.le_refl _) ⟨Heap.get?_push_size _ rfl, Nat.le_trans (cutV_length xs lo hi) hz, _, (r.drop (HT.sIx xs.length 0 lo)).take (HT.sIx xs.length xs.length hi - HT.sIx xs.length 0 lo), IsTup.new _ _⟩, rfl, q _ _ (same_new hf) (wt_new rfl)⟩

/-! ### w.index(k), w.index(k, at) -/
theorem eqs_word {ks : List Str} {us : List Value} (r : Vals (ks.map V.str) us) {k : Str} {t : Tok} (A : Around) (s : Shared) (j : Nat) (hj : j < us.length) (hk : j < ks.length) : SeqAt.EqAt A s us[j] (.str k t) (decide (ks[j]? = some k)) := by
  have e1 : (ks.map V.str)[j]? = some (V.str ks[j]) := by rw [List.getElem?_map, List.getElem?_eq_getElem hk]; rfl
  obtain ⟨u, hu, ru⟩ := r.get e1
  obtain ⟨t2, e2⟩ := ru
  have e3 : us[j] = .str ks[j] t2 := by
    rw [List.getElem?_eq_getElem hj] at hu
    rw [Option.some.inj hu, e2]
  rw [e3, List.getElem?_eq_getElem hk]
  have e4 := SeqAt.EqAt.str_str (A := A) (s := s) ks[j] t2 k t
  have e5 : decide (some ks[j] = some k) = (ks[j] == k) := by
    by_cases hh : ks[j] = k
    · simp [hh]
    · simp [hh]
  rw [e5]
  exact e4
/-- the first place of k at or after n -/
def fromIdx (k : Str) (n : Nat) (ks : List Str) : Nat := n + (ks.drop n).idxOf k
theorem fromIdx_lt {k : Str} {n : Nat} {ks : List Str} (h : k ∈ ks.drop n) : fromIdx k n ks < ks.length := by
  have h1 := List.idxOf_lt_length_iff.mpr h
  rw [List.length_drop] at h1
  unfold fromIdx
  omega
theorem fromIdx_at {k : Str} {n : Nat} {ks : List Str} (h : k ∈ ks.drop n) : ks[fromIdx k n ks]? = some k := by
  have h1 := List.idxOf_lt_length_iff.mpr h
  have h2 : (ks.drop n)[(ks.drop n).idxOf k]? = some k := by rw [List.getElem?_eq_getElem h1, List.getElem_idxOf]
  rw [List.getElem?_drop] at h2
  exact h2
theorem fromIdx_no {k : Str} {n : Nat} {ks : List Str} {m : Nat} (h1 : n ≤ m) (h2 : m < fromIdx k n ks) : ks[m]? ≠ some k := by
  intro e
  unfold fromIdx at h2
  have h3 : m - n < (ks.drop n).idxOf k := by omega
  have h4 : (ks.drop n)[m - n]? = some k := by rw [List.getElem?_drop, show n + (m - n) = m by omega]; exact e
  obtain ⟨h5, e5⟩ := List.getElem?_eq_some_iff.mp h4
  exact SeqAt.lt_idxOf_ne h3 h5 e5
def rIndex : V → List V → Hp → VK → Prop := fun x xs H Q => ∃ a ks k n, x = .ref a ∧ Wt H a (ks.map V.str) ∧ (xs = [.str k, .int (n : Nat)] ∨ (n = 0 ∧ xs = [.str k])) ∧ k ∈ ks.drop n ∧ Q (.int (fromIdx k n ks : Nat)) H
theorem mt_index : MtM X "tuple.index" rIndex := by
  intro pins s σ H x xs v us Q I rx r h
  obtain ⟨a, ks, k, n, rfl, hw, hxs, hk, q⟩ := h
  cases rx
  obtain ⟨its, rv, p, _⟩ := I.tuple (.inl hw.rd)
  have hlen : its.length = ks.length := by rw [← rv.length, List.length_map]
  obtain ⟨⟨cls, dd, data, sl⟩, ho, hc, ep, hd⟩ := id p
  simp only at hc hd
  subst hc hd
  have hj := fromIdx_lt hk
  have hat := fromIdx_at hk
  have fin : ∀ {tk : Nat}, EP X pins σ Q (.int (fromIdx k n ks : Nat) s.toks) { s with toks := s.toks + 1 } := fun {_} => ⟨.int (fromIdx k n ks : Nat), H, I.tok _, ⟨_, rfl⟩, q⟩
  rcases hxs with rfl | ⟨rfl, rfl⟩
  · obtain ⟨u1, u2, rfl, r1, r2⟩ := Vals.two r
    obtain ⟨t1, rfl⟩ := r1
    obtain ⟨t2, rfl⟩ := r2
    refine call_meets F.slot_tuple_index ⟨_, ho, rfl⟩ F.entry_tuple_index (F.args_tuple_index_3 _ _ _)
      (SeqAt.tuple_index3_found a its.toArray ep dd sl (.str k t1) (fun j => decide (ks[j]? = some k)) (n : Int) t2 (fromIdx k n ks) (by simpa [hlen] using hj) (by rw [SeqAt.searchFrom_nat]; unfold fromIdx; omega) (by simpa [hlen] using hj) ?_ ?_) ⟨ho, fun j hj' => ?_, fin (tk := 0)⟩
    · simpa using hat
    · intro m hm h1 hlt
      rw [SeqAt.searchFrom_nat] at h1
      simpa using fromIdx_no h1 hlt
    · have h1 : j < its.length := by simpa using hj'
      simpa using eqs_word rv X.A.in1 s j h1 (by omega)
  · obtain ⟨u1, rfl, r1⟩ := Vals.one r
    obtain ⟨t1, rfl⟩ := r1
    refine call_meets F.slot_tuple_index ⟨_, ho, rfl⟩ F.entry_tuple_index (F.args_tuple_index_2 _ _)
      (SeqAt.tuple_index2_found a its.toArray ep dd sl (.str k t1) (fun j => decide (ks[j]? = some k)) (fromIdx k 0 ks) (by simpa [hlen] using hj) (Nat.zero_le _) (by simpa [hlen] using hj) ?_ ?_) ⟨ho, fun j hj' => ?_, fin (tk := 0)⟩
    · simpa using hat
    · intro m hm h1 hlt
      simpa using fromIdx_no (Nat.zero_le _) hlt
    · have h1 : j < its.length := by simpa using hj'
      simpa using eqs_word rv X.A.in1 s j h1 (by omega)
def tIndex (to : TE) (t : TA) : TE := fun σ H Q => to σ H fun x H1 => (∃ a xs, x = .ref a ∧ Wt H1 a xs) ∧ t σ H1 fun xs H2 => rIndex x xs H2 Q
theorem pe_index {o e : Expr} {es : List Expr} {to : TE} {t : TA} {apos cpos : Pos} (ho : PE X o to) (ha : PA X (e :: es) t)
    (hbase : attributeBase o "index" X.env (eval o X.env) = eval o X.env := by rfl)
    (hfew : ((backTo cpos (starEach (e :: es) X.env)).all (fun x => !x.1) && (backToKw cpos (keywordEach [] X.env)).all (fun x => x.1.isSome)
      && decide ((e :: es).length + ([] : List Keyword).length + (if ([] : List Keyword).isEmpty then 0 else 1) < 30)) = true := by rfl)
    (hline : (apos.endLine == cpos.line) = true := by rfl) (hs : starEach (e :: es) X.env = (false, eval e X.env) :: starEach es X.env := by rfl) (hplain : (backTo cpos (starEach es X.env)).any (·.1) = false := by rfl) :
    PE X (.Call (.Attribute o "index" apos) (e :: es) [] cpos) (tIndex to t) := by
  refine ⟨fun pins s σ H Q I h => ?_⟩
  refine wpAny_Call_method_late hbase hfew hline rfl (thn (ho.run pins s σ H _ I h) fun v s1 ⟨x, H1, I1, r1, ⟨a, xs, ex, hw⟩, q1⟩ => ?_)
  subst ex
  have ev : v = .ref a := r1
  subst ev
  obtain ⟨o1, e1, d1⟩ := id hw
  have ho1 : s1.heap.get? a = some o1 := (I1.hok _ _ e1).1
  obtain ⟨its, rv, p, _⟩ := I1.tuple (.inl hw.rd)
  refine ⟨"tuple", _, F.plainAttrs_tuple, F.slot_tuple_index, F.type_tuple_index, p.typeIs, fun b eb => by cases eb; exact ⟨o1, ho1, d1⟩, ?_⟩
  have hA := ha.run cpos pins s1 σ H1 _ I1 q1
  rw [hs] at hA ⊢
  refine Calls.callWith_builtin (by show (false || (backTo cpos (starEach es X.env)).any (·.1)) = false; rw [hplain] <;> rfl) (Calls.evalArgs_plain ?_)
  exact thn hA fun us s2 ⟨vs, H2, I2, r2, q2⟩ => mt_index pins s2 σ H2 (.ref a) vs (.ref a) us Q I2 rfl r2 q2
end
end K8
end

section
set_option Elab.async false
set_option linter.all false
set_option maxRecDepth 100000
set_option maxHeartbeats 4000000
/-! K81: enumerate of a tuple. -/
namespace K8
open PySem PySem.Spec PyProof.Rows L2

theorem meets_enumT (l : Addr) (items : Array Value) :
    Meets (Builtin.«enumerate.__new__» ⟨[.type "enumerate", .ref l], []⟩) (fun _ R s => s.heap.IsTuple l items ∧
      R (.ok (.ret (.ref (s.heap.push { cls := .type "tuple_iterator", data := .fields #[.ref l, .int 0 0] }).objs.size)))
        { s with heap := (s.heap.push { cls := .type "tuple_iterator", data := .fields #[.ref l, .int 0 0] }).push { cls := .type "enumerate", data := .fields #[.none, .bool false, .ref s.heap.objs.size, rawInt 0, .none, .none] } }) :=
  .of_wp fun prog w A R s h => by
    obtain ⟨hp, g, d, tk, os⟩ := s; obtain ⟨hL, h⟩ := h
    have hsub := sub_enumerate
    replace hL : Heap.IsTuple (Shared.heap ⟨hp, g, d, tk, os⟩) l items := hL
    wp_walk
    refine wpAny_stack_any fun st => wpAny_pure ?_
    split
    · rename_i c _ _ _ _ _
      cases (c == Value.type "enumerate")
      · wp_walk using wpAny_pyIter_tuple hL
        exact ⟨_, rfl, h⟩
      · wp_walk using wpAny_pyIter_tuple hL
        exact ⟨_, rfl, h⟩
    · wp_walk using wpAny_pyIter_tuple hL
      exact ⟨_, rfl, h⟩
section
variable {prog : Program} {w : World} {A : Around} {E : Value → Shared → Prop} {s : Shared}
theorem call_enumT {l : Addr} {items : Array Value} {Q : Value → Shared → Prop} (hL : s.heap.IsTuple l items)
    (h : ∀ h', IsEnum h' (s.heap.objs.size + 1) s.heap.objs.size 0 .none → h'.IsTupleIter s.heap.objs.size l 0 → h'.objs.size = s.heap.objs.size + 2 →
      (∀ b o, s.heap.get? b = some o → h'.get? b = some o) → Q (.ref (s.heap.objs.size + 1)) { s with heap := h' }) :
    wpAny (model prog w) A (call (.type "enumerate") [.ref l]) Q E s := by
  refine callType_new F.called_enumerate (by decide) (F.typeCall_enumerate_1 _) (F.newCall_enumerate_1 _) (fun obj => F.args_object_init_2 obj _) F.entry_enumerate_new
    (meets_enumT l items) ⟨hL, ?_⟩
  have hz : (s.heap.push { cls := .type "tuple_iterator", data := .fields #[.ref l, .int 0 0] }).objs.size = s.heap.objs.size + 1 := Heap.size_push ..
  show _ ∧ _
  rw [hz]
  have he : IsEnum ((s.heap.push { cls := .type "tuple_iterator", data := .fields #[.ref l, .int 0 0] }).push
      { cls := .type "enumerate", data := .fields #[.none, .bool false, .ref s.heap.objs.size, rawInt 0, .none, .none] }) (s.heap.objs.size + 1) s.heap.objs.size 0 .none := by
    have := Heap.get?_push_size (s.heap.push { cls := .type "tuple_iterator", data := .fields #[.ref l, .int 0 0] })
      (o := { cls := .type "enumerate", data := .fields #[.none, .bool false, .ref s.heap.objs.size, rawInt 0, .none, .none] }) rfl
    rw [hz] at this; exact this
  refine ⟨⟨_, he, rfl⟩, h _ he ⟨_, Heap.get?_push_of_some _ (Heap.get?_push_size _ rfl), rfl, rfl⟩ (by rw [Heap.size_push, hz]) fun b o x => Heap.get?_push_of_some _ (Heap.get?_push_of_some _ x)⟩
end
/-- the tuple at a, each item in a new pair with its place -/
def IteT (K : PySem.W.Frag) (a : Addr) : It :=
  ⟨fun i H => ∃ (xs : List V) (x : V), SqT K H a xs ∧ xs[i]? = some x, fun i H v H' => ∃ T x, v = .ref T ∧ H T = none ∧ H' = upd H T (.tup [.int (i : Nat), x]) ∧ ∀ xs, SqT K H a xs → xs[i]? = some x, fun i H => ∃ xs : List V, SqT K H a xs ∧ xs.length ≤ i⟩
theorem turn_enumT {P : Program} {w : World} {K : PySem.W.Frag} {elts : List Expr} {kk : Nat} {tpos : Pos} (a e it : Addr) :
    Turn P w K (.Tuple elts kk tpos) (IteT K a) [e, it] e (fun i h => (∃ old, IsEnum h e it ((i : Nat) : Int) old) ∧ h.IsTupleIter it a i ∧ e ≠ it ∧ a ≠ it ∧ a ≠ e) where
  mem := by simp
  obj := fun i h st b hb => by
    obtain ⟨⟨old, he⟩, ⟨o, ho, hc, hd⟩, _⟩ := st
    have e' : b = e ∨ b = it := by simpa using hb
    rcases e' with z | z
    · rw [z]; exact ⟨_, he, fun v q => nomatch q⟩
    · rw [z]; exact ⟨o, ho, fun v q => by rw [hd] at q; cases q⟩
  keep := fun i h h' st k => let ⟨⟨old, he⟩, hi, hne⟩ := st; ⟨⟨old, k e (by simp) _ he⟩, hi.at fun o q => k it (by simp) o q, hne⟩
  item := by
    intro X hP hw hK hc i pins s σ H E I hf st hg
    subst hP hw hK
    obtain ⟨⟨old, he⟩, hit, hne, hai, hae⟩ := st
    obtain ⟨xs, x, hq, hx⟩ := hg
    obtain ⟨its, rv, p, hz⟩ := I.tuple hq
    obtain ⟨u, hu, ru⟩ := rv.get hx
    have p1 : s.heap.IsTuple a its.toArray := p
    have hel : e < s.heap.objs.size := Heap.lt_size he
    have hil : it < s.heap.objs.size := by obtain ⟨_, q, _⟩ := hit; exact Heap.lt_size q
    have hlt : i < its.toArray.size := by
      have := (List.getElem?_eq_some_iff.mp hu).1
      simpa using this
    refine wpAny_pyNext_enum_itemD (Draws.tuple (A := X.A.in1) (I.ok.hd hc) it a hai its.toArray) he ⟨hit, p1⟩ hlt hne (by simp [hne, Ne.symm hae]) fun x1 h' tk hP ho hit' hT hsz hk => ?_
    have ex : x1 = u := by
      have q : its.toArray[i]? = some x1 := hP
      have q2 : its.toArray[i]? = some u := by simpa using hu
      rw [q] at q2
      exact Option.some.inj q2
    subst ex
    refine ⟨_, rfl, wpAny_letOwnedTupleGo_enum (s := { s with heap := h', toks := tk + 1 }) ho fun h'' he' sb => ?_⟩
    have hT2 : h''.get? s.heap.objs.size = some { cls := .type "tuple", data := .seq #[.int i tk, x1] } := (sb.2 _ (Nat.ne_of_gt hel)).trans hT
    have new : ObjOk X.prog X.w (upd H s.heap.objs.size (.tup [.int (i : Nat), x])) h'' s.heap.objs.size (.tup [.int (i : Nat), x]) :=
      ⟨by show 2 ≤ sizeLine; decide, [.int i tk, x1], .cons ⟨_, rfl⟩ (.cons ru .nil), ⟨_, hT2, rfl, _, rfl⟩⟩
    have I1 : Inv X pins σ (upd H s.heap.objs.size (.tup [.int (i : Nat), x])) { s with heap := h'', toks := tk + 1 } :=
      I.turnedNew (ch := [e, it]) (fun b ob hb q => (sb.2 b (fun z => hb (by simp [z]))).trans (hk b ob (fun z => hb (by simp [z])) (fun z => hb (by simp [z])) q)) hf (Nat.le_refl _) new
    refine ⟨.ref s.heap.objs.size, _, I1, rfl, ⟨_, x, rfl, I.hok.fresh (Nat.le_refl _), rfl, fun ys hy => by rw [I.tuple_inj hy hq]; exact hx⟩, ⟨⟨x1, ?_⟩, hit'.1.at fun o q => (sb.2 it (Ne.symm hne)).trans q, hne, hai, hae⟩, fun b hb => ?_⟩
    · have e1 : ((i + 1 : Nat) : Int) = (i : Int) + 1 := by omega
      rw [e1]; exact he'
    · have hb' : b < s.heap.objs.size := by
        have e' : b = e ∨ b = it := by simpa using hb
        rcases e' with z | z
        · rw [z]; exact hel
        · rw [z]; exact hil
      rw [upd_ne (Nat.ne_of_lt hb')]
      exact (hf b hb).1
  done := by
    intro X hP hw hK hc i pins s σ H E I hf st hg
    subst hP hw hK
    obtain ⟨⟨old, he⟩, hit, hne, hai, hae⟩ := st
    obtain ⟨xs, hq, hx⟩ := hg
    obtain ⟨its, rv, p, hz⟩ := I.tuple hq
    obtain ⟨f0, f1, f2, f3, f4, f5⟩ := hf it (by simp)
    have hl := rv.length
    have hT : s.TypeIs (.ref e) "enumerate" := ⟨_, he, rfl⟩
    unfold pyNext
    refine wpAny_bind (wpAny_attempt (wpAny_callSpecial?_slot (name := Str.ofString "__next__") hT F.slot_enumerate_next
      (wpAny_call_entry F.slot_enumerate_next hT F.entry_enumerate_next ?_ (F.args_enumerate_next_1 _))))
    show wpAny _ _ (field (.ref e) 2 >>= _) _ _ _
    refine wpAny_bind (wpAny_field he rfl (x := .ref it) rfl ?_)
    refine wpAny_bind (wpAny_nextOf_tuple_end (I.ok.hd hc) hit p (by simp; omega) fun h' x he' hx' => ?_)
    obtain ⟨o, ho, hco⟩ := hx'
    refine wpAny_bind (wpAny_isInstance (T := "StopIteration") (b := true) ⟨o, ho, hco⟩ isSubtype_stop ?_)
    exact wpAny_pure ⟨rfl, I.turned (t' := s.toks) (fun b o hb q => he' b o hb q) f0 f1 f3 f4 f5⟩
  self := fun A i s Q E st h => let ⟨⟨_, he⟩, _⟩ := st; wpAny_pyIter_enum he h
def iEnumT (K : PySem.W.Frag) (ta : TA) : TI := fun σ H R => ta σ H fun vs H1 => ∃ a xs, vs = [.ref a] ∧ SqT K H1 a xs ∧ R (IteT K a) H1
theorem pi_enumT {X : Cx} {e : Expr} {ta : TA} {p pos tpos : Pos} {elts : List Expr} {kk : Nat} (hg : Gl X "enumerate") (hm : X.mg "enumerate" = none) (ha : PA X [e] ta) (hs : starEach [e] X.env = [(false, eval e X.env)] := by rfl) :
    PI X (.Tuple elts kk tpos) (.Call (.Name "enumerate" p) [e] [] pos) (iEnumT X.K ta) := by
  refine ⟨fun pins s σ H R I h => ?_⟩
  refine Call_ (ld_blt I hg hm boot_enumerate (PyProof.Rows.callWith_type1 (thn (ha.run pos pins s σ H _ I h) fun us s1 ⟨vs, H1, I1, r1, q1⟩ => ?_) hs rfl))
  obtain ⟨a, xs, ex, hq, q⟩ := q1
  subst ex
  cases r1 with
  | cons r rr =>
    cases rr
    cases r
    obtain ⟨its, rv, p', hz⟩ := I1.tuple hq
    have p1 : s1.heap.IsTuple a its.toArray := p'
    have hal : a < s1.heap.objs.size := by obtain ⟨_, q, _⟩ := id p1; exact Heap.lt_size q
    refine call_enumT p1 fun h' he hit hsz hk => wpAny_pyIter_enum he ?_
    have I2 : Inv X pins σ H1 { s1 with heap := h' } := I1.kept (t' := s1.toks) hk
    refine ⟨s1.heap.objs.size + 1, [s1.heap.objs.size + 1, s1.heap.objs.size], _, _, H1, rfl, I2, turn_enumT a (s1.heap.objs.size + 1) s1.heap.objs.size, ⟨⟨.none, he⟩, hit, Nat.succ_ne_self _, Nat.ne_of_lt hal, Nat.ne_of_lt (Nat.lt_succ_of_lt hal)⟩, fun b hb => ?_, q⟩
    have e' : b = s1.heap.objs.size + 1 ∨ b = s1.heap.objs.size := by simpa using hb
    have hle : s1.heap.objs.size ≤ b := by
      rcases e' with z | z
      · rw [z]; exact Nat.le_add_right _ _
      · rw [z]; exact Nat.le_refl _
    exact I1.fpOk hle (I1.hok.fresh hle)
/-- a loop over enumerate of a tuple -/
theorem for_enumT {K : PySem.W.Frag} {a : Addr} {xs : List V} {g : TG} {tb : TS} {D : L2.Ends} {σ : L2.St} {H : Hp} (Pv : Nat → L2.St → Hp → Prop) (h0 : Pv 0 σ H) (hq : ∀ i σ H, Pv i σ H → SqT K H a xs)
    (hs : ∀ (i : Nat) (x : V) (T : Addr) (σ : L2.St) (H : Hp), xs[i]? = some x → Pv i σ H → H T = none → g (.ref T) σ (upd H T (.tup [.int (i : Nat), x])) fun σ2 H2 => tb { D with nx := Pv (i + 1), ct := Pv (i + 1), bk := D.nx } σ2 H2) (hd : ∀ σ H, Pv xs.length σ H → D.nx σ H) :
    ∃ W : Nat → Nat → L2.St → Hp → Prop, (∃ m, W 0 m σ H) ∧ ∀ i m σ H, W i m σ H →
      ((IteT K a).stop i H ∧ D.nx σ H) ∨ ((IteT K a).go i H ∧ ∃ N : L2.St → Hp → Prop, (∀ σ' H', N σ' H' → ∃ m', m' < m ∧ W (i + 1) m' σ' H') ∧ ∀ v H', (IteT K a).yld i H v H' → g v σ H' fun σ2 H2 => tb { D with nx := N, ct := N, bk := D.nx } σ2 H2) := by
  refine ⟨fun i m σ H => m = xs.length - i ∧ i ≤ xs.length ∧ Pv i σ H, ⟨xs.length, rfl, Nat.zero_le _, h0⟩, ?_⟩
  rintro i m σ H ⟨rfl, hi, p⟩
  have qx := hq i σ H p
  by_cases hlt : i < xs.length
  · have hx : xs[i]? = some xs[i] := List.getElem?_eq_getElem hlt
    refine .inr ⟨⟨xs, _, qx, hx⟩, Pv (i + 1), fun σ' H' p' => ⟨xs.length - (i + 1), by omega, rfl, hlt, p'⟩, fun v H' y => ?_⟩
    obtain ⟨T, x', rfl, hT, rfl, f1⟩ := y
    exact hs i x' T σ H (f1 xs qx) p hT
  · have e : i = xs.length := by omega
    subst e
    exact .inl ⟨⟨xs, qx, Nat.le_refl _⟩, hd σ H p⟩
end K8
end

section
set_option Elab.async false
set_option linter.all false
set_option maxRecDepth 100000
set_option maxHeartbeats 4000000
/-! K81: comprehensions over data. -/
namespace K8
open PySem PySem.Spec PyProof.Rows L2
/-- J goes through ds while H2 stands -/
def Wk (J : It) (H2 : Hp) (ds : List Dt) : Prop := ∀ H, Same H2 H → (∀ i, i < ds.length → J.go i H ∧ ∀ x H', J.yld i H x H' → Same H H' ∧ ∃ d, ds[i]? = some d ∧ Tp H' x d) ∧ J.stop ds.length H
def EvI (G : Hp → Prop) (wi : TI) (σ : L2.St) (ds : List Dt) : Prop := ∀ H1, G H1 → ∀ R : It → Hp → Prop, (∀ J H2, Same H1 H2 → Wk J H2 ds → R J H2) → wi σ H1 R
theorem EvI.to {G : Hp → Prop} {wi : TI} {σ : L2.St} {ds es : List Dt} (h : EvI G wi σ ds) (e : ds = es) : EvI G wi σ es := e ▸ h
/-- J goes through ds while the tuples stand -/
def WkT (J : It) (H2 : Hp) (ds : List Dt) : Prop := ∀ H, Ts H2 H → (∀ i, i < ds.length → J.go i H ∧ ∀ x H', J.yld i H x H' → Same H H' ∧ ∃ d, ds[i]? = some d ∧ Tp H' x d) ∧ J.stop ds.length H
def EvJ (G : Hp → Prop) (wi : TI) (σ : L2.St) (ds : List Dt) : Prop := ∀ H1, G H1 → ∀ R : It → Hp → Prop, (∀ J H2, Same H1 H2 → WkT J H2 ds → R J H2) → wi σ H1 R
theorem WkT.wk {J : It} {H2 : Hp} {ds : List Dt} (w : WkT J H2 ds) : Wk J H2 ds := fun H s => w H (Ts.of s)
theorem EvJ.ei {G : Hp → Prop} {wi : TI} {σ : L2.St} {ds : List Dt} (h : EvJ G wi σ ds) : EvI G wi σ ds := fun H1 g R q => h H1 g R fun J H2 s w => q J H2 s w.wk
theorem EvJ.to {G : Hp → Prop} {wi : TI} {σ : L2.St} {ds es : List Dt} (h : EvJ G wi σ ds) (e : ds = es) : EvJ G wi σ es := e ▸ h
theorem wk_tup {K : PySem.W.Frag} {a : Addr} {xs : List V} {H2 : Hp} {ds : List Dt} (hr : Rd H2 a (.tup xs)) (ht : TpA H2 xs ds) : WkT (Itt K a) H2 ds := fun H s => by
  have q : SqT K H a xs := .inl (s _ _ hr)
  have t := ht.mono s
  refine ⟨fun i hi => ?_, ⟨xs, q, Nat.le_of_eq t.length⟩⟩
  have hi' : i < xs.length := by rw [t.length]; exact hi
  have hx : xs[i]? = some xs[i] := List.getElem?_eq_getElem hi'
  refine ⟨⟨xs, _, q, hx⟩, fun x H' y => ?_⟩
  obtain ⟨rfl, hy⟩ := y
  exact ⟨Same.refl _, t.getV (hy xs q)⟩
theorem wk_list {K : PySem.W.Frag} {a : Addr} {xs : List V} {H2 : Hp} {ds : List Dt} (hr : H2 a = some (.lst xs)) (ht : TpA H2 xs ds) : Wk (Itl K a) H2 ds := fun H s => by
  have q : SqL K H a xs := .inl (.inl (s _ _ hr))
  have t := ht.up s
  refine ⟨fun i hi => ?_, ⟨xs, q, Nat.le_of_eq t.length⟩⟩
  have hi' : i < xs.length := by rw [t.length]; exact hi
  have hx : xs[i]? = some xs[i] := List.getElem?_eq_getElem hi'
  refine ⟨⟨xs, _, q, hx⟩, fun x H' y => ?_⟩
  obtain ⟨rfl, hy⟩ := y
  exact ⟨Same.refl _, t.getV (hy xs q)⟩
theorem wk_range {H2 : Hp} {lo : Int} {n : Nat} : WkT (Itr lo n) H2 ((List.range n).map fun i => NestedKey.num (lo + (i : Nat))) := fun H s => by
  refine ⟨fun i hi => ?_, by show n ≤ _; simp⟩
  have hi' : i < n := by simpa using hi
  refine ⟨hi', fun x H' y => ?_⟩
  obtain ⟨rfl, rfl⟩ := y
  refine ⟨Same.refl _, _, ?_, .num _⟩
  simp [hi']
theorem wk_str {H2 : Hp} {z : Str} : WkT (Its z) H2 (z.cps.toList.map fun c => NestedKey.text ⟨#[c]⟩) := fun H s => by
  refine ⟨fun i hi => ?_, by show _ ≤ _; simp⟩
  have hi' : i < z.cps.size := by simpa using hi
  refine ⟨hi', fun x H' y => ?_⟩
  obtain ⟨rfl, c, hc, rfl⟩ := y
  refine ⟨Same.refl _, _, ?_, .txt _⟩
  rw [List.getElem?_map, Array.getElem?_toList, hc]
  rfl
theorem wk_enumT {K : PySem.W.Frag} {a : Addr} {xs : List V} {H2 : Hp} {ds : List Dt} (hr : Rd H2 a (.tup xs)) (ht : TpA H2 xs ds) : WkT (IteT K a) H2 (ds.zipIdx.map fun p => NestedKey.tup [.num (p.2 : Nat), p.1]) := fun H s => by
  have q : SqT K H a xs := .inl (s _ _ hr)
  have t := ht.mono s
  refine ⟨fun i hi => ?_, ⟨xs, q, by rw [t.length]; simp⟩⟩
  have hi0 : i < ds.length := by simpa using hi
  have hi' : i < xs.length := by rw [t.length]; exact hi0
  have hx : xs[i]? = some xs[i] := List.getElem?_eq_getElem hi'
  refine ⟨⟨xs, _, q, hx⟩, fun v H' y => ?_⟩
  obtain ⟨T, x, rfl, hT, rfl, hy⟩ := y
  obtain ⟨d, hd, td⟩ := t.getV (hy xs q)
  have sn := same_new (o := .tup [.int (i : Nat), x]) hT
  refine ⟨sn, _, ?_, tp_new hT (.cons (.num _) (.cons td .nil))⟩
  rw [List.getElem?_map, List.getElem?_zipIdx, hd]
  simp
theorem zip_at {ds es : List Dt} {i : Nat} {d e : Dt} (h1 : ds[i]? = some d) (h2 : es[i]? = some e) : ((ds.zip es).map fun p => NestedKey.tup [p.1, p.2])[i]? = some (.tup [d, e]) := by
  rw [List.getElem?_map]
  have e : (ds.zip es)[i]? = some (d, e) := List.getElem?_zip_eq_some.mpr ⟨h1, h2⟩
  rw [e]
  rfl
theorem wk_zipT {K : PySem.W.Frag} {a b : Addr} {xs ys : List V} {H2 : Hp} {ds es : List Dt} (hr : Rd H2 a (.tup xs)) (ht : TpA H2 xs ds) (hr2 : Rd H2 b (.tup ys)) (ht2 : TpA H2 ys es) : WkT (RZ.ItzT K a b) H2 ((ds.zip es).map fun p => NestedKey.tup [p.1, p.2]) := fun H s => by
  have q : SqT K H a xs := .inl (s _ _ hr)
  have q2 : SqT K H b ys := .inl (s _ _ hr2)
  have t := ht.mono s
  have t2 := ht2.mono s
  have l1 := t.length
  have l2 := t2.length
  refine ⟨fun i hi => ?_, ⟨xs, ys, q, q2, by simp only [List.length_map, List.length_zip]; omega⟩⟩
  simp only [List.length_map, List.length_zip] at hi
  have hx : xs[i]? = some (xs[i]'(by omega)) := List.getElem?_eq_getElem _
  have hy : ys[i]? = some (ys[i]'(by omega)) := List.getElem?_eq_getElem _
  refine ⟨⟨xs, ys, _, _, q, q2, hx, hy⟩, fun v H' y => ?_⟩
  obtain ⟨T, x, y, rfl, hT, rfl, f1, f2⟩ := y
  obtain ⟨d, hd, td⟩ := t.getV (f1 xs q)
  obtain ⟨e, he, te⟩ := t2.getV (f2 ys q2)
  exact ⟨same_new hT, _, zip_at hd he, tp_new hT (.cons td (.cons te .nil))⟩
section
variable {G : Hp → Prop} {σ : L2.St} {te : TE} {ta : TA} {K : PySem.W.Frag}
theorem ei_tup {ds : List Dt} (h : EvD G te σ (.tup ds)) : EvJ G (iTup K te) σ ds := fun H1 g R q => h H1 g _ fun v H2 s t => by
  obtain ⟨a, xs, rfl, hr, ht⟩ := t.tup_inv
  exact ⟨a, rfl, ⟨xs, .inl hr⟩, q _ H2 s (wk_tup hr ht)⟩
theorem ei_list {ds : List Dt} (h : EvL G te σ ds) : EvI G (iList K te) σ ds := fun H1 g R q => h H1 g _ fun p vs H2 hn s e t =>
  ⟨p, rfl, ⟨vs, .inl (.inl e)⟩, q _ H2 s (wk_list e t)⟩
/-- a list that stands -/
theorem ei_listV {ds : List Dt} {a : Addr} {xs : List V} (h : EvR G te σ fun v H => v = .ref a ∧ H a = some (.lst xs) ∧ TpA H xs ds) : EvI G (iList K te) σ ds := fun H1 g R q => h H1 g _ fun v H2 s ⟨e, e1, t⟩ =>
  ⟨a, e, ⟨xs, .inl (.inl e1)⟩, q _ H2 s (wk_list e1 t)⟩
theorem ei_range1 {n : Nat} (h : EvD G te σ (.num (n : Int))) (hn : n < 2 ^ 62) : EvJ G (iRng1 (tCons te tNil)) σ ((List.range n).map fun i => NestedKey.num (i : Nat)) := fun H1 g R q => h H1 g _ fun v H2 s t => by
  cases t
  refine ⟨(n : Int), rfl, by omega, by omega, ?_⟩
  have e : ((n : Int)).toNat = n := Int.toNat_natCast n
  rw [e]
  refine q _ H2 s ?_
  have w := wk_range (H2 := H2) (lo := 0) (n := n)
  simpa using w
theorem ei_str {z : Str} (h : EvD G te σ (.text z)) : EvJ G (iStr te) σ (z.cps.toList.map fun c => NestedKey.text ⟨#[c]⟩) := fun H1 g R q => h H1 g _ fun v H2 s t =>
  ⟨z, t.txt_inv, q _ H2 s wk_str⟩
theorem ei_enumT {ds : List Dt} (h : EvD G te σ (.tup ds)) : EvJ G (iEnumT K (tCons te tNil)) σ (ds.zipIdx.map fun p => NestedKey.tup [.num (p.2 : Nat), p.1]) := fun H1 g R q => h H1 g _ fun v H2 s t => by
  obtain ⟨a, xs, rfl, hr, ht⟩ := t.tup_inv
  exact ⟨a, xs, rfl, .inl hr, q _ H2 s (wk_enumT hr ht)⟩
theorem ei_zipT [Stb G] {tb : TE} {ds es : List Dt} (h : EvD G te σ (.tup ds)) (h2 : EvD G tb σ (.tup es)) : EvJ G (RZ.iZipA K (tCons te (tCons tb tNil))) σ ((ds.zip es).map fun p => NestedKey.tup [p.1, p.2]) := fun H1 g R q => h H1 g _ fun v H2 s t => h2 H2 (Stb.up g s) _ fun v2 H3 s2 t2 => by
  obtain ⟨a, xs, rfl, hr, ht⟩ := t.tup_inv
  obtain ⟨b, ys, rfl, hr2, ht2⟩ := t2.tup_inv
  exact ⟨a, b, xs, ys, rfl, .inr ⟨.inl (rd_up s2 hr), .inl hr2, q _ H3 (s.trans s2) (wk_zipT (rd_up s2 hr) (ht.up s2) hr2 ht2)⟩⟩
end
/-! ### [e for t in it if c] -/
theorem same_D {H H' : Hp} {D : Addr} {o : HO} (s : Same H H') (h : H D = none) : Same H (upd H' D o) := fun b u e => by
  rw [upd_ne (ne_of_none e h)]
  exact s b u e
/-- what a target makes of the item -/
def EvG (g : TG) (σ : L2.St) (x : V) (H : Hp) (P : L2.St → Hp → Prop) : Prop := ∀ Q : L2.St → Hp → Prop, (∀ σ2 H2, P σ2 H2 → Q σ2 H2) → g x σ H Q
theorem lc_any {G : Hp → Prop} {σ : L2.St} {wi : TI} {g : TG} {tt : TT} {te : TE} {vs : List Nat} {ds : List Dt} {Ac : Nat → List V → Hp → Prop} (hA : ∀ i acc H H', Ac i acc H → Ts H H' → Ac i acc H') (hA0 : ∀ H, Ac 0 [] H)
    (hi : EvI G wi σ ds) (hl : ds.length ≤ 100000)
    (hs : ∀ H1, G H1 → ∀ i d x H acc, Same H1 H → ds[i]? = some d → Tp H x d → Ac i acc H → EvG g (wipe σ vs) x H fun σ2 H2 => Same H H2 ∧ wipe σ2 vs = wipe σ vs ∧
      ∃ b, EvT (Same H2) tt σ2 b ∧ (b = true → EvR (Same H2) te σ2 fun y H4 => Ac (i + 1) (acc ++ [y]) H4) ∧ (b = false → Ac (i + 1) acc H2))
    {H1 : Hp} (g1 : G H1) {Q : VK} (hQ : ∀ p acc H2, H1 p = none → Same H1 H2 → H2 p = some (.lst acc) → acc.length ≤ ds.length → Ac ds.length acc H2 → Q (.ref p) H2) : tLc wi g tt te vs σ H1 Q := by
  refine hi H1 g1 _ fun J H2 s2 w D hD => ?_
  have hD1 : H1 D = none := by
    cases e : H1 D with
    | none => rfl
    | some o => rw [s2 _ _ e] at hD; cases hD
  refine ⟨fun i m H => m = ds.length - i ∧ i ≤ ds.length ∧ Same H2 H ∧ ∃ acc, H D = some (.lst acc) ∧ acc.length ≤ i ∧ Ac i acc H, ⟨ds.length, by simp, Nat.zero_le _, same_D (Same.refl _) hD, [], by simp [upd], Nat.le_refl _, hA0 _⟩, ?_⟩
  rintro i m H ⟨rfl, hle, s, acc, hacc, hal, ha⟩
  by_cases hlt : i < ds.length
  · obtain ⟨hgo, hy⟩ := (w H s).1 i hlt
    refine .inr ⟨hgo, fun H => i + 1 ≤ ds.length ∧ Same H2 H ∧ ∃ acc, H D = some (.lst acc) ∧ acc.length ≤ i + 1 ∧ Ac (i + 1) acc H, fun H' hN => ⟨ds.length - (i + 1), by omega, rfl, hN⟩, fun x H' y => ?_⟩
    obtain ⟨s3, d, hd, td⟩ := hy x H' y
    have s13 := (s2.trans s).trans s3
    refine hs H1 g1 i d x H' acc s13 hd td (hA _ _ _ _ ha (Ts.of s3)) _ fun σ2 H4 ⟨s4, hw, b, ht, h1, h2⟩ => ⟨hw, ht H4 (Same.refl _) _ fun H5 s5 => ?_⟩
    have sx : Same H H5 := (s3.trans s4).trans s5
    cases b with
    | true =>
      refine (if_pos rfl).mpr (h1 rfl H5 s5 _ fun y H6 s6 r6 => ?_)
      have e6 : H6 D = some (.lst acc) := s6 _ _ (sx _ _ hacc)
      exact ⟨acc, e6, by have := sizeLine_eq; omega, hlt, same_D (s.trans (sx.trans s6)) hD, acc ++ [y], by simp [upd], by rw [List.length_append]; simp; omega, hA _ _ _ _ r6 (Ts.lst e6)⟩
    | false =>
      exact ⟨hlt, s.trans sx, acc, sx _ _ hacc, by omega, hA _ _ _ _ (h2 rfl) (Ts.of s5)⟩
  · have e : i = ds.length := by omega
    subst e
    exact .inl ⟨(w H s).2, hQ D acc H hD1 (s2.trans s) hacc hal ha⟩
theorem filter_map_snoc {α β : Type} {p : α → Bool} {f : α → β} {ds : List α} {i : Nat} {d : α} (hd : ds[i]? = some d) : ((ds.take (i + 1)).filter p).map f = ((ds.take i).filter p).map f ++ (if p d = true then [f d] else []) := by
  rw [List.take_add_one, hd]
  simp only [Option.toList_some, List.filter_append, List.map_append]
  congr 1
  by_cases h : p d = true
  · simp [h]
  · simp [h]
theorem at_map {α : Type} {mk : α → Dt} {xs : List α} {i : Nat} {d : Dt} (h : (xs.map mk)[i]? = some d) : ∃ a, xs[i]? = some a ∧ a ∈ xs ∧ d = mk a := by
  rw [List.getElem?_map] at h
  cases e : xs[i]? with
  | none => rw [e] at h; cases h
  | some a => rw [e] at h; exact ⟨a, rfl, List.mem_of_getElem? e, (Option.some.inj h).symm⟩
/-- [e for t in it if c], data -/
theorem el_lc {α : Type} {G : Hp → Prop} {σ : L2.St} {wi : TI} {g : TG} {tt : TT} {te : TE} {vs : List Nat} {xs : List α} {mk : α → Dt} (p : α → Bool) (f : α → Dt) (hi : EvI G wi σ (xs.map mk)) (hl : xs.length ≤ 100000)
    (hs : ∀ H1, G H1 → ∀ a ∈ xs, ∀ x H, Same H1 H → Tp H x (mk a) → EvG g (wipe σ vs) x H fun σ2 H2 => Same H H2 ∧ wipe σ2 vs = wipe σ vs ∧ EvT (Same H2) tt σ2 (p a) ∧ (p a = true → EvD (Same H2) te σ2 (f a))) :
    EvL G (tLc wi g tt te vs) σ ((xs.filter p).map f) := fun H1 g1 Q q => by
  refine lc_any (Ac := fun i acc H => TpA H acc (((xs.take i).filter p).map f)) (fun i acc H H' a t => a.mono t) (fun H => .nil) hi (by rw [List.length_map]; exact hl) ?_ g1 fun D acc H2 hn s e _ t => q D acc H2 hn s e (by rw [List.length_map, List.take_length] at t; exact t)
  intro H1 g1 i d x H acc s hd td ta Q q
  obtain ⟨a, ha, hm, rfl⟩ := at_map hd
  refine hs H1 g1 a hm x H s td Q fun σ2 H2 ⟨s2, hw, ht, he⟩ => q σ2 H2 ⟨s2, hw, p a, ht, fun hp H3 s3 Q q => ?_, fun hp => ?_⟩
  · exact he hp H3 s3 Q fun v H4 s4 t4 => q v H4 s4 (by rw [filter_map_snoc ha, if_pos hp]; exact (ta.up (s2.trans (s3.trans s4))).snoc t4)
  · show TpA H2 acc _
    rw [filter_map_snoc ha, hp]
    simpa using ta.up s2
/-- no test -/
theorem el_lcM {α : Type} {G : Hp → Prop} {σ : L2.St} {wi : TI} {g : TG} {tt : TT} {te : TE} {vs : List Nat} {xs : List α} {mk : α → Dt} (f : α → Dt) (hi : EvI G wi σ (xs.map mk)) (hl : xs.length ≤ 100000)
    (hs : ∀ H1, G H1 → ∀ a ∈ xs, ∀ x H, Same H1 H → Tp H x (mk a) → EvG g (wipe σ vs) x H fun σ2 H2 => Same H H2 ∧ wipe σ2 vs = wipe σ vs ∧ EvT (Same H2) tt σ2 true ∧ EvD (Same H2) te σ2 (f a)) :
    EvL G (tLc wi g tt te vs) σ (xs.map f) := by
  have z := el_lc (fun _ => true) f hi hl fun H1 g1 a ha x H s t Q q => hs H1 g1 a ha x H s t Q fun σ2 H2 ⟨a1, a2, a3, a4⟩ => q σ2 H2 ⟨a1, a2, a3, fun _ => a4⟩
  have e : xs.filter (fun _ => true) = xs := List.filter_eq_self.mpr fun _ _ => rfl
  rw [e] at z
  exact z
/-- [e for t in it], values -/
def EvV (G : Hp → Prop) (te : TE) (σ : L2.St) (us : List V) : Prop := ∀ H1, G H1 → ∀ Q : VK, (∀ p H2, H1 p = none → Same H1 H2 → H2 p = some (.lst us) → Q (.ref p) H2) → te σ H1 Q
theorem ev_lc {α : Type} {G : Hp → Prop} {σ : L2.St} {wi : TI} {g : TG} {tt : TT} {te : TE} {vs : List Nat} {xs : List α} {mk : α → Dt} (f : α → V) (hi : EvI G wi σ (xs.map mk)) (hl : xs.length ≤ 100000)
    (hs : ∀ H1, G H1 → ∀ a ∈ xs, ∀ x H, Same H1 H → Tp H x (mk a) → EvG g (wipe σ vs) x H fun σ2 H2 => Same H H2 ∧ wipe σ2 vs = wipe σ vs ∧ EvT (Same H2) tt σ2 true ∧ EvR (Same H2) te σ2 fun v _ => v = f a) :
    EvV G (tLc wi g tt te vs) σ (xs.map f) := fun H1 g1 Q q => by
  refine lc_any (Ac := fun i acc H => acc = (xs.take i).map f) (fun i acc H H' a t => a) (fun H => by simp) hi (by rw [List.length_map]; exact hl) ?_ g1 fun D acc H2 hn s e _ t => q D H2 hn s (by rw [e, t, List.length_map, List.take_length])
  intro H1 g1 i d x H acc s hd td ta Q q
  obtain ⟨a, ha, hm, rfl⟩ := at_map hd
  refine hs H1 g1 a hm x H s td Q fun σ2 H2 ⟨s2, hw, ht, he⟩ => q σ2 H2 ⟨s2, hw, true, ht, fun _ H3 s3 Q q => ?_, fun hp => nomatch hp⟩
  exact he H3 s3 Q fun v H4 s4 t4 => q v H4 s4 (by rw [List.take_add_one, ha, ta, t4]; simp)
/-! ### [e for t in it for u in it1 if c] -/
theorem el_lc2 {α β : Type} {G : Hp → Prop} {σ : L2.St} {wi wi1 : TI} {g g1 : TG} {tt tt1 : TT} {te : TE} {vs vs1 : List Nat} {ds : List α} {mk : α → Dt} (es : α → List β) {mk1 : β → Dt} (p : β → Bool) (f : β → Dt) (hi : EvI G wi σ (ds.map mk)) (hl : (ds.flatMap es).length ≤ 100000)
    (hs : ∀ H1, G H1 → ∀ d ∈ ds, ∀ x H, Same H1 H → Tp H x (mk d) → EvG g (wipe σ vs) x H fun σ2 H2 => Same H H2 ∧ wipe σ2 vs = wipe σ vs ∧ EvT (Same H2) tt σ2 true ∧ EvJ (Same H2) wi1 σ2 ((es d).map mk1) ∧
      ∀ e ∈ es d, ∀ y H3, Ts H2 H3 → Tp H3 y (mk1 e) → EvG g1 (wipe σ2 vs1) y H3 fun σ3 H5 => Same H3 H5 ∧ wipe σ3 vs1 = wipe σ2 vs1 ∧ EvT (Same H5) tt1 σ3 (p e) ∧ (p e = true → EvD (Same H5) te σ3 (f e))) :
    EvL G (tLc2 wi g tt wi1 g1 tt1 te vs vs1) σ (ds.flatMap fun d => ((es d).filter p).map f) := fun H1 gg Q hQ => by
  refine hi H1 gg _ fun J H2 s2 w D hD => ?_
  have hD1 : H1 D = none := by
    cases e : H1 D with
    | none => rfl
    | some o => rw [s2 _ _ e] at hD; cases hD
  have hcnt : ∀ i, ((ds.take i).flatMap es).length ≤ 100000 := fun i => by
    refine Nat.le_trans ?_ hl
    rw [← List.take_append_drop i ds, List.flatMap_append, List.length_append, List.take_append_drop]
    exact Nat.le_add_right _ _
  refine ⟨fun i m H => m = ds.length - i ∧ i ≤ ds.length ∧ Same H2 H ∧ ∃ acc, H D = some (.lst acc) ∧ acc.length ≤ ((ds.take i).flatMap es).length ∧ TpA H acc ((ds.take i).flatMap fun d => ((es d).filter p).map f), ⟨ds.length, by simp, Nat.zero_le _, same_D (Same.refl _) hD, [], by simp [upd], Nat.zero_le _, .nil⟩, ?_⟩
  rintro i m H ⟨rfl, hle, s, acc, hacc, hal, ha⟩
  by_cases hlt : i < ds.length
  · obtain ⟨hgo, hy⟩ := (w H s).1 i (by rw [List.length_map]; exact hlt)
    refine .inr ⟨hgo, fun H => i + 1 ≤ ds.length ∧ Same H2 H ∧ ∃ acc, H D = some (.lst acc) ∧ acc.length ≤ ((ds.take (i + 1)).flatMap es).length ∧ TpA H acc ((ds.take (i + 1)).flatMap fun d => ((es d).filter p).map f), fun H' hN => ⟨ds.length - (i + 1), by omega, rfl, hN⟩, fun x H' y => ?_⟩
    obtain ⟨s3, dd, hdd, td⟩ := hy x H' y
    obtain ⟨d, hd, hdm, rfl⟩ := at_map hdd
    have s13 := (s2.trans s).trans s3
    have tk : ∀ {γ : Type} (h : α → List γ), (ds.take (i + 1)).flatMap h = (ds.take i).flatMap h ++ h d := fun h => by
      rw [List.take_add_one, hd, List.flatMap_append]
      simp
    refine hs H1 gg d hdm x H' s13 td _ fun σ2 H4 ⟨s4, hw, ht, hi1, hs1⟩ => ⟨hw, ht H4 (Same.refl _) _ fun H5 s5 => ?_⟩
    refine (if_pos rfl).mpr (hi1 H5 s5 _ fun J1 H6 s6 w1 => ?_)
    have sx : Same H H6 := ((s3.trans s4).trans s5).trans s6
    have hacc6 : H6 D = some (.lst acc) := sx _ _ hacc
    refine ⟨fun j k H => k = (es d).length - j ∧ j ≤ (es d).length ∧ Ts H6 H ∧ Same H2 H ∧ ∃ acc, H D = some (.lst acc) ∧ acc.length ≤ ((ds.take i).flatMap es).length + j ∧ TpA H acc (((ds.take i).flatMap fun d => ((es d).filter p).map f) ++ (((es d).take j).filter p).map f),
      ⟨(es d).length, by simp, Nat.zero_le _, Ts.of (Same.refl _), s.trans sx, acc, hacc6, hal, by simpa using ha.up sx⟩, ?_⟩
    rintro j k H7 ⟨rfl, hjl, t7, s7, acc7, hacc7, hal7, ha7⟩
    by_cases hjt : j < (es d).length
    · obtain ⟨hgo1, hy1⟩ := (w1 H7 t7).1 j (by rw [List.length_map]; exact hjt)
      refine .inr ⟨hgo1, fun H => j + 1 ≤ (es d).length ∧ Ts H6 H ∧ Same H2 H ∧ ∃ acc, H D = some (.lst acc) ∧ acc.length ≤ ((ds.take i).flatMap es).length + (j + 1) ∧ TpA H acc (((ds.take i).flatMap fun d => ((es d).filter p).map f) ++ (((es d).take (j + 1)).filter p).map f), fun H' hN => ⟨(es d).length - (j + 1), by omega, rfl, hN⟩, fun y H8 yy => ?_⟩
      obtain ⟨s8, ee, hee, te8⟩ := hy1 y H8 yy
      obtain ⟨e, he, hem, rfl⟩ := at_map hee
      refine hs1 e hem y H8 (((Ts.of (s5.trans s6)).trans t7).trans (Ts.of s8)) te8 _ fun σ3 H9 ⟨s9, hw1, ht1, he1⟩ => ⟨hw1, ht1 H9 (Same.refl _) _ fun H10 s10 => ?_⟩
      have sy : Same H7 H10 := (s8.trans s9).trans s10
      have hacc10 : H10 D = some (.lst acc7) := sy _ _ hacc7
      by_cases hp : p e = true
      · refine (if_pos hp).mpr (he1 hp H10 s10 _ fun v H11 s11 t11 => ?_)
        have e11 : H11 D = some (.lst acc7) := s11 _ _ hacc10
        have hb : acc7.length < sizeLine := by
          have h1 := hcnt (i + 1)
          rw [tk, List.length_append] at h1
          have := sizeLine_eq
          omega
        refine ⟨acc7, e11, hb, hjt, t7.trans ((Ts.of (sy.trans s11)).trans (Ts.lst e11)), same_D (s7.trans (sy.trans s11)) hD, acc7 ++ [v], by simp [upd], by have q1 : (acc7 ++ [v]).length = acc7.length + 1 := List.length_append; omega, ?_⟩
        rw [filter_map_snoc he, if_pos hp, ← List.append_assoc]
        exact ((ha7.up (sy.trans s11)).snoc t11).mono (Ts.lst e11)
      · refine (if_neg hp).mpr ⟨hjt, t7.trans (Ts.of sy), s7.trans sy, acc7, hacc10, by omega, ?_⟩
        rw [filter_map_snoc he, if_neg hp, List.append_nil]
        exact ha7.up sy
    · have e : j = (es d).length := by omega
      subst e
      refine .inl ⟨by have z := (w1 H7 t7).2; rw [List.length_map] at z; exact z, hlt, s7, acc7, hacc7, by rw [tk, List.length_append]; exact hal7, ?_⟩
      rw [tk]
      rw [List.take_length] at ha7
      exact ha7
  · have e : i = ds.length := by omega
    subst e
    rw [List.take_length] at ha
    exact .inl ⟨by have z := (w H s).2; rw [List.length_map] at z; exact z, hQ D acc H hD1 (s2.trans s) hacc ha⟩
/-! ### targets -/
theorem wipe_set {σ : L2.St} {i : Nat} {a : Option V} : ∀ {vs : List Nat}, i ∈ vs → wipe (σ.set i a) vs = wipe σ vs
  | v :: vs, h => by
    show (wipe (σ.set i a) vs).set v none = (wipe σ vs).set v none
    by_cases hv : i = v
    · subst hv
      have key : ∀ (vs : List Nat) (τ : L2.St), (wipe (τ.set i a) vs).set i none = (wipe τ vs).set i none := by
        intro vs
        induction vs with
        | nil => intro τ; show (τ.set i a).set i none = τ.set i none; rw [List.set_set]
        | cons w ws ih =>
          intro τ
          show ((wipe (τ.set i a) ws).set w none).set i none = ((wipe τ ws).set w none).set i none
          by_cases hw : w = i
          · subst hw; rw [List.set_set, List.set_set]; exact ih τ
          · rw [List.set_comm _ _ hw, ih τ, List.set_comm _ _ hw]
      exact key vs σ
    · have hm : i ∈ vs := by
        rcases List.mem_cons.mp h with h | h
        · exact absurd h hv
        · exact h
      rw [wipe_set hm]
theorem wipe_wipe {σ : L2.St} : ∀ {us vs : List Nat}, (∀ i ∈ us, i ∈ vs) → wipe (wipe σ us) vs = wipe σ vs
  | [], _, _ => rfl
  | u :: us, vs, h => by
    show wipe ((wipe σ us).set u none) vs = _
    rw [wipe_set (h u (by simp)), wipe_wipe fun i hi => h i (by simp [hi])]
section
variable {σ : L2.St} {x : V} {H : Hp} {P : L2.St → Hp → Prop} {K : PySem.W.Frag}
theorem eg_name {i : Nat} (h : P (σ.set i (some x)) H) : EvG (gName i) σ x H P := fun Q q => q _ _ h
theorem eg_pair {i j : Nat} {d e : Dt} (t : Tp H x (.tup [d, e])) (h : ∀ u v, Tp H u d → Tp H v e → P ((σ.set i (some u)).set j (some v)) H) : EvG (gTup K 2 (gCons (gName i) (gCons (gName j) gNil))) σ x H P := fun Q q => by
  obtain ⟨a, xs, rfl, hr, ht⟩ := t.tup_inv
  obtain ⟨u, ws, rfl, tu, ht⟩ := TpA.cons_inv ht
  obtain ⟨v, zs, rfl, tv, ht⟩ := TpA.cons_inv ht
  cases ht
  exact ⟨a, _, rfl, .inl hr, rfl, u, _, rfl, v, _, rfl, rfl, q _ _ (h u v tu tv)⟩
theorem eg_pair2 {i j k : Nat} {c d e : Dt} (t : Tp H x (.tup [c, .tup [d, e]])) (h : ∀ z u v, Tp H z c → Tp H u d → Tp H v e → P (((σ.set k (some z)).set i (some u)).set j (some v)) H) :
    EvG (gTup K 2 (gCons (gName k) (gCons (gTup K 2 (gCons (gName i) (gCons (gName j) gNil))) gNil))) σ x H P := fun Q q => by
  obtain ⟨a, xs, rfl, hr, ht⟩ := t.tup_inv
  obtain ⟨z, ws, rfl, tz, ht⟩ := TpA.cons_inv ht
  obtain ⟨y, zs, rfl, ty, ht⟩ := TpA.cons_inv ht
  cases ht
  obtain ⟨b, ys, rfl, hr2, ht⟩ := ty.tup_inv
  obtain ⟨u, ws, rfl, tu, ht⟩ := TpA.cons_inv ht
  obtain ⟨v, zs, rfl, tv, ht⟩ := TpA.cons_inv ht
  cases ht
  exact ⟨a, _, rfl, .inl hr, rfl, z, _, rfl, .ref b, _, rfl, ⟨b, _, rfl, .inl hr2, rfl, u, _, rfl, v, _, rfl, rfl, rfl, q _ _ (h z u v tz tu tv)⟩⟩
end
end K8
end

section
set_option Elab.async false
set_option linter.all false
set_option maxRecDepth 100000
set_option maxHeartbeats 4000000
/-! K81: dicts whose keys are nested tuples, tracked by their raw object. -/
namespace K8
open PySem PySem.Spec PyProof.Rows L2

/-- the object at p is o itself -/
def dnO (p : Addr) (o : Obj) : HO := .ext fun h => h.get? p = some o
theorem dnO_ok {P : Program} {w : World} {H : Hp} {h : Heap} {p : Addr} {o : Obj} (e : h.get? p = some o) : ObjOk P w H h p (dnO p o) := ⟨e, ⟨o, e⟩, fun _ _ e1 k => k _ e1⟩
theorem dnO_get {P : Program} {w : World} {H : Hp} {h : Heap} {p : Addr} {o : Obj} (ok : HOk P w H h) (e : H p = some (dnO p o)) : h.get? p = some o := (show ObjOk P w H h p (dnO p o) from ok p _ e).1

mutual
theorem tp_is {P : Program} {w : World} {H : Hp} {h : Heap} (ok : HOk P w H h) : ∀ (d : Dt) (v : V) (u : Value), Tp H v d → RelV v u → NestedIs h d u
  | .num i, _, u, t, r => by
    rw [t.num_inv] at r
    obtain ⟨tk, rfl⟩ := r
    exact .int i tk
  | .text x, _, u, t, r => by
    rw [t.txt_inv] at r
    obtain ⟨tk, rfl⟩ := r
    exact .text x tk
  | .tup ds, _, u, t, r => by
    obtain ⟨a, xs, rfl, ha, hx⟩ := t.tup_inv
    cases r
    obtain ⟨_, its, rv, o, ho, hc, n, hd⟩ := (show ObjOk P w H h a (.tup xs) from ha.ok ok)
    exact .tup ho hc hd (tpA_is ok ds xs its hx rv)
  | .none, _, u, t, r => by cases t
theorem tpA_is {P : Program} {w : World} {H : Hp} {h : Heap} (ok : HOk P w H h) : ∀ (ds : List Dt) (vs : List V) (us : List Value), TpA H vs ds → Vals vs us → NestedAll h ds us
  | [], _, us, t, r => by
    rw [t.nil_inv] at r
    cases r
    exact .nil
  | d :: ds, _, us, t, r => by
    obtain ⟨v, ws, rfl, t1, t2⟩ := t.cons_inv
    cases r with
    | cons r1 r2 => exact .cons (tp_is ok d v _ t1 r1) (tpA_is ok ds ws _ t2 r2)
end

abbrev E3 (β : Type) := Dt × Addr × β
def Ent3 (p : E3 V) (q : E3 Value) : Prop := p.1 = q.1 ∧ p.2.1 = q.2.1 ∧ RelV p.2.2 q.2.2
def findN (xs : List (E3 V)) (k : Dt) : Option V := (xs.find? fun x => decide (x.1 = k)).map (·.2.2)
def putN (xs : List (E3 V)) (k : Dt) (a : Addr) (v : V) : List (E3 V) := if (findN xs k).isSome then xs.map (fun x => if x.1 = k then (x.1, x.2.1, v) else x) else xs ++ [(k, a, v)]
/-- the dict at d, with the object o -/
structure DNo (P : Program) (w : World) (H : Hp) (d : Addr) (o : Obj) (xs : List (E3 V)) : Prop where
  at_ : H d = some (dnO d o)
  raw : ∃ (es : Array DictEntry) (ep : Nat) (vs : List (E3 Value)), o.ExactDict ∧ o.data = .dict es ep ∧ es.toList = vs.map (entryOfKey (nestedKind P w)) ∧ Paired Ent3 xs vs
  nd : (xs.map (·.1)).Nodup
  key : ∀ x ∈ xs, Tp H (.ref x.2.1) x.1 ∧ x.1.depth ≤ 8
  nm : (d == sysModules) = false
  sz : xs.length ≤ sizeLine
/-- the dict at d -/
def DN (P : Program) (w : World) (H : Hp) (d : Addr) (xs : List (E3 V)) : Prop := ∃ o, DNo P w H d o xs
theorem ent3_keys {xs : List (E3 V)} {vs : List (E3 Value)} (p : Paired Ent3 xs vs) : xs.map (·.1) = vs.map (·.1) := by
  induction p with
  | nil => rfl
  | cons h t ih => rw [List.map_cons, List.map_cons, h.1, ih]
theorem paired_mem {α β : Type} {F : α → β → Prop} {l : List α} {m : List β} (p : Paired F l m) {y : β} (hy : y ∈ m) : ∃ x ∈ l, F x y := by
  induction p with
  | nil => cases hy
  | @cons a b as bs h t ih =>
    rcases List.mem_cons.mp hy with e | e
    · rw [e]; exact ⟨a, List.mem_cons_self, h⟩
    · obtain ⟨x, h1, h2⟩ := ih e
      exact ⟨x, List.mem_cons_of_mem _ h1, h2⟩
theorem ent3_find {xs : List (E3 V)} {vs : List (E3 Value)} (p : Paired Ent3 xs vs) (k : Dt) : RelO (findN xs k) ((atKey vs k).map (·.2)) := by
  unfold findN atKey
  induction p with
  | nil => exact True.intro
  | @cons a b as bs h t ih =>
    rw [List.find?_cons, List.find?_cons, ← h.1]
    by_cases e : a.1 = k
    · rw [decide_eq_true e]
      exact h.2.2
    · rw [decide_eq_false e]
      exact ih
theorem ent3_map {xs : List (E3 V)} {vs : List (E3 Value)} (p : Paired Ent3 xs vs) (k : Dt) {v : V} {u : Value} (r : RelV v u) : Paired Ent3 (xs.map fun x => if x.1 = k then (x.1, x.2.1, v) else x) (vs.map (putAt k u)) := by
  induction p with
  | nil => exact .nil
  | @cons a b as bs h t ih =>
    rw [List.map_cons, List.map_cons]
    refine .cons ?_ ih
    unfold putAt
    rw [← h.1]
    by_cases e : a.1 = k
    · rw [if_pos e, if_pos e]
      exact ⟨rfl, h.2.1, r⟩
    · rw [if_neg e, if_neg e]
      exact h
theorem paired_snoc {α β : Type} {F : α → β → Prop} {a : α} {b : β} (f : F a b) : ∀ {l : List α} {m : List β}, Paired F l m → Paired F (l ++ [a]) (m ++ [b])
  | _, _, .nil => .cons f .nil
  | _, _, .cons h t => .cons h (paired_snoc f t)
theorem ent3_put {xs : List (E3 V)} {vs : List (E3 Value)} (p : Paired Ent3 xs vs) (k : Dt) (a : Addr) {v : V} {u : Value} (r : RelV v u) : Paired Ent3 (putN xs k a v) (storedH vs k a u) := by
  have e : (findN xs k).isSome = (atKey vs k).isSome := by
    rw [(ent3_find p k).isSome_eq, Option.isSome_map]
  unfold putN storedH
  rw [e]
  by_cases h : (atKey vs k).isSome = true
  · rw [if_pos h, if_pos h]
    exact ent3_map p k r
  · rw [if_neg h, if_neg h]
    exact paired_snoc ⟨rfl, rfl, r⟩ p
theorem findN_none {xs : List (E3 V)} {k : Dt} : findN xs k = none ↔ k ∉ xs.map (·.1) := by
  unfold findN
  rw [Option.map_eq_none_iff, List.find?_eq_none]
  constructor
  · intro h hm
    obtain ⟨x, hx, e⟩ := List.mem_map.mp hm
    exact h x hx (decide_eq_true e)
  · intro h x hx e
    exact h (List.mem_map.mpr ⟨x, hx, of_decide_eq_true e⟩)
theorem findN_dec {xs : List (E3 V)} {k : Dt} : (findN xs k).isSome = decide (k ∈ xs.map (·.1)) := by
  by_cases h : k ∈ xs.map (·.1)
  · rw [decide_eq_true h]
    cases e : findN xs k with
    | none => exact absurd h (findN_none.mp e)
    | some v => rfl
  · rw [decide_eq_false h, findN_none.mpr h]
    rfl
theorem putN_new {xs : List (E3 V)} {k : Dt} (h : k ∉ xs.map (·.1)) (a : Addr) (v : V) : putN xs k a v = xs ++ [(k, a, v)] := by
  unfold putN
  rw [findN_none.mpr h]
  rfl
theorem putN_old {xs : List (E3 V)} {k : Dt} (h : k ∈ xs.map (·.1)) (a : Addr) (v : V) : putN xs k a v = xs.map (fun x => if x.1 = k then (x.1, x.2.1, v) else x) := by
  unfold putN
  rw [if_pos]
  rw [findN_dec]
  exact decide_eq_true h
theorem putN_keys_old {xs : List (E3 V)} (k : Dt) (v : V) : (xs.map (fun x : E3 V => if x.1 = k then (x.1, x.2.1, v) else x)).map (·.1) = xs.map (·.1) := by
  rw [List.map_map]
  refine List.map_congr_left fun x _ => ?_
  show (if x.1 = k then (x.1, x.2.1, v) else x).1 = x.1
  by_cases e : x.1 = k
  · rw [if_pos e]
  · rw [if_neg e]
theorem putN_nd {xs : List (E3 V)} (n : (xs.map (·.1)).Nodup) (k : Dt) (a : Addr) (v : V) : ((putN xs k a v).map (·.1)).Nodup := by
  by_cases h : k ∈ xs.map (·.1)
  · rw [putN_old h, putN_keys_old]
    exact n
  · rw [putN_new h, List.map_append]
    refine List.nodup_append.mpr ⟨n, by simp, fun x hx y hy e => ?_⟩
    have : y = k := by simpa using hy
    exact h (by rw [← this, ← e]; exact hx)
theorem putN_len (xs : List (E3 V)) (k : Dt) (a : Addr) (v : V) : (putN xs k a v).length ≤ xs.length + 1 := by
  unfold putN
  split
  · rw [List.length_map]; omega
  · rw [List.length_append]; simp
theorem putN_mem {xs : List (E3 V)} {k : Dt} {a : Addr} {v : V} {x : E3 V} (h : x ∈ putN xs k a v) : (∃ y ∈ xs, y.1 = x.1 ∧ y.2.1 = x.2.1) ∨ (x.1 = k ∧ x.2.1 = a) := by
  unfold putN at h
  split at h
  · obtain ⟨y, hy, rfl⟩ := List.mem_map.mp h
    refine .inl ⟨y, hy, ?_⟩
    by_cases e : y.1 = k
    · rw [if_pos e]; exact ⟨rfl, rfl⟩
    · rw [if_neg e]; exact ⟨rfl, rfl⟩
  · rcases List.mem_append.mp h with h | h
    · exact .inl ⟨x, h, rfl, rfl⟩
    · rw [List.mem_singleton.mp h]
      exact .inr ⟨rfl, rfl⟩

section
variable {X : Cx} {pins : List (Addr × Obj)} {σ : L2.St} {H : Hp} {s : Shared} {d a : Addr} {o : Obj} {xs : List (E3 V)} {k : Dt} {A : Around} {E : Value → Shared → Prop}
/-- the raw dict in the heap -/
theorem DNo.dict (D : DNo X.prog X.w H d o xs) (I : Inv X pins σ H s) : ∃ vs : List (E3 Value), Paired Ent3 xs vs ∧ s.heap.DictOfH (nestedKind X.prog X.w) d vs ∧ vs.length = xs.length := by
  obtain ⟨es, ep, vs, hx, hd, he, p⟩ := D.raw
  refine ⟨vs, p, ⟨o, es, ep, dnO_get I.hok D.at_, hx, hd, he, fun y hy => ?_, by rw [← ent3_keys p]; exact D.nd⟩, (Paired.length p).symm⟩
  obtain ⟨x, hx1, q1, q2, _⟩ := paired_mem p hy
  obtain ⟨t, dp⟩ := D.key x hx1
  rw [q1, q2] at t
  rw [q1] at dp
  exact ⟨tp_is I.hok _ _ _ t rfl, dp⟩
theorem key_is (I : Inv X pins σ H s) (t : Tp H (.ref a) k) (dp : k.depth ≤ 8) : (nestedKind X.prog X.w).is s.heap k a := ⟨tp_is I.hok _ _ _ t rfl, dp⟩
theorem room8 (hu : X.A.units + 64 < cLine) : (nestedKind X.prog X.w).room X.A.in1 := by
  show X.A.units + 1 + 8 < cLine
  omega
theorem room80 (hu : X.A.units + 64 < cLine) : (nestedKind X.prog X.w).room X.A := by
  show X.A.units + 8 < cLine
  omega
/-- behind a change of the dict's object -/
theorem dn_after {h' : Heap} {t' : Nat} {vs' : List (E3 Value)} {ys : List (E3 V)} (D : DNo X.prog X.w H d o xs) (I : Inv X pins σ H s) (hd : h'.DictOfH (nestedKind X.prog X.w) d vs') (sb : Heap.SameBut d s.heap h') (p : Paired Ent3 ys vs')
    (key : ∀ x ∈ ys, Tp H (.ref x.2.1) x.1 ∧ x.1.depth ≤ 8) (sz : ys.length ≤ sizeLine) :
    ∃ o', Inv X pins σ (upd H d (dnO d o')) { s with heap := h', toks := t' } ∧ DNo X.prog X.w (upd H d (dnO d o')) d o' ys := by
  obtain ⟨o', es, ep, ho, hx, hda, he, _, hn⟩ := hd
  refine ⟨o', I.write (x := d) (e := d) (by rw [D.at_]; exact True.intro) (.inl rfl) (fun b q hb z => (sb.2 b hb).trans z) ⟨o', ho⟩ (dnO_ok ho), upd_same, ⟨es, ep, vs', hx, hda, he, p⟩, by rw [ent3_keys p]; exact hn, fun x hx1 => ?_, D.nm, sz⟩
  obtain ⟨t, dp⟩ := key x hx1
  exact ⟨t.mono (Ts.ext D.at_), dp⟩
end

/-! ### the rules -/
section
variable {X : Cx} {pos : Pos}
/-- {} -/
def tNew (P : Program) (w : World) : TE := fun _ H Q => ∀ p o, H p = none → DNo P w (upd H p (dnO p o)) p o [] → Q (.ref p) (upd H p (dnO p o))
theorem dn_fresh {P : Program} {w : World} {H : Hp} (h : Heap) (hb : sysModules < h.objs.size) (hn : H h.objs.size = none) :
    DNo P w (upd H h.objs.size (dnO h.objs.size { cls := .type "dict", data := .dict #[] })) h.objs.size { cls := .type "dict", data := .dict #[] } [] := by
  refine ⟨upd_same, ⟨#[], 0, [], ⟨rfl, rfl, rfl⟩, rfl, rfl, .nil⟩, List.nodup_nil, fun x hx => (nomatch hx), ?_, Nat.zero_le _⟩
  exact beq_eq_false_iff_ne.mpr (Nat.ne_of_gt hb)
theorem pe_new : PE X (.Dict [] [] pos) (tNew X.prog X.w) := ⟨fun pins s σ H Q I h =>
  wpAny_Dict_empty ⟨.ref s.heap.objs.size, _, I.laid (a := s.heap.objs.size) (o := dnO s.heap.objs.size { cls := .type "dict", data := .dict #[] }) (t' := s.toks) (fun _ _ q => Heap.get?_push_of_some _ q) (Nat.le_refl _) (dnO_ok (Heap.get?_push_size _ rfl)), rfl,
    h _ _ (I.hok.fresh (Nat.le_refl _)) (dn_fresh s.heap I.big (I.hok.fresh (Nat.le_refl _)))⟩⟩
/-- d[k] = v -/
def rPutN (P : Program) (w : World) : TSet := fun x i v H Q => ∃ d o xs k a, x = .ref d ∧ i = .ref a ∧ DNo P w H d o xs ∧ Tp H (.ref a) k ∧ k.depth ≤ 8 ∧ xs.length < sizeLine ∧
  ∀ o', DNo P w (upd H d (dnO d o')) d o' (putN xs k a v) → Q (upd H d (dnO d o'))
theorem set_n (hu : X.A.units + 64 < cLine) : PSet X (rPutN X.prog X.w) := by
  intro pins s σ H x i v xv iv u Q I rx ri rv h
  obtain ⟨d, o, xs, k, a, rfl, rfl, D, t, dp, hz, q⟩ := h
  cases rx
  cases ri
  obtain ⟨vs, p, hd, hl⟩ := D.dict I
  refine wpAny_setItem_heap (hsz := by rw [hl]; omega) (room8 hu) (key_is I t dp) hd fun h' hd' sb => ?_
  have hkey : ∀ x ∈ putN xs k a v, Tp H (.ref x.2.1) x.1 ∧ x.1.depth ≤ 8 := fun x hx => by
    rcases putN_mem hx with ⟨y, hy, e1, e2⟩ | ⟨e1, e2⟩
    · rw [← e1, ← e2]; exact D.key y hy
    · rw [e1, e2]; exact ⟨t, dp⟩
  obtain ⟨o', I', D'⟩ := dn_after (t' := s.toks + (nestedKind X.prog X.w).draws k) D I hd' sb (ent3_put p k a rv) hkey (by have := putN_len xs k a v; omega)
  exact ⟨_, I', q o' D'⟩
/-- k not in d -/
def rNotInN (P : Program) (w : World) : R2 := fun x y H Q => ∃ d o xs k a, y = .ref d ∧ x = .ref a ∧ DNo P w H d o xs ∧ Tp H (.ref a) k ∧ k.depth ≤ 8 ∧ Q (.bl (!decide (k ∈ xs.map (·.1)))) H
theorem op_notInN (hu : X.A.units + 64 < cLine) : OpR X (compareOp .NotIn) (rNotInN X.prog X.w) := by
  intro pins s σ H x y v u Q I rx ry h
  obtain ⟨d, o, xs, k, a, rfl, rfl, D, t, dp, q⟩ := h
  cases rx
  cases ry
  obtain ⟨vs, p, hd, hl⟩ := D.dict I
  refine wpAny_notIn_heap (room8 hu) (key_is I t dp) D.nm hd ⟨_, H, I.tok _, ?_, q⟩
  have e := (ent3_find p k).isSome_eq
  rw [Option.isSome_map, findN_dec] at e
  rw [e]
  rfl
theorem dn_type {pins : List (Addr × Obj)} {σ : L2.St} {H : Hp} {s : Shared} {d : Addr} {o : Obj} {xs : List (E3 V)} (D : DNo X.prog X.w H d o xs) (I : Inv X pins σ H s) :
    s.TypeIs (.ref d) "dict" ∧ ∀ b, Value.ref d = .ref b → ∃ ob, s.heap.get? b = some ob ∧ ob.dict = none := by
  obtain ⟨vs, p, hd, hl⟩ := D.dict I
  refine ⟨hd.typeIs, fun b e => ?_⟩
  cases e
  obtain ⟨es, ep, vs, hx, _⟩ := D.raw
  exact ⟨o, dnO_get I.hok D.at_, hx.2.1⟩
variable {e f g : Expr} {apos cpos : Pos} {td ty tx : TE}
/-- d.get(k), d.get(k, x) -/
def tGetN1 (P : Program) (w : World) (td ty : TE) : TE := fun σ H Q => td σ H fun x H1 => ∃ d o xs, x = .ref d ∧ DNo P w H1 d o xs ∧ ty σ H1 fun y H2 => ∃ o2 xs2 k a, DNo P w H2 d o2 xs2 ∧ y = .ref a ∧ Tp H2 (.ref a) k ∧ k.depth ≤ 8 ∧ Q ((findN xs2 k).getD .non) H2
def tGetN2 (P : Program) (w : World) (td ty tx : TE) : TE := fun σ H Q => td σ H fun x H1 => ∃ d o xs, x = .ref d ∧ DNo P w H1 d o xs ∧ ty σ H1 fun y H2 => tx σ H2 fun z H3 => ∃ o2 xs2 k a, DNo P w H3 d o2 xs2 ∧ y = .ref a ∧ Tp H3 (.ref a) k ∧ k.depth ≤ 8 ∧ Q ((findN xs2 k).getD z) H3
theorem pe_getN1 (hu : X.A.units + 64 < cLine) (hd : PE X e td) (hk : PE X f ty) (m : M1 X e "get" apos f cpos) : PE X (.Call (.Attribute e "get" apos) [f] [] cpos) (tGetN1 X.prog X.w td ty) := by
  refine ⟨fun pins s σ H Q I h => ?_⟩
  refine wpAny_Call_method m.base m.few m.line PySem.F.plainAttrs_dict PySem.F.slot_dict_get PySem.F.type_dict_get (thn (hd.run pins s σ H _ I h) fun u s1 z => ?_)
  obtain ⟨x, H1, I1, rx, d, o, xs, rfl, D, q1⟩ := z
  cases rx
  obtain ⟨t1, t2⟩ := dn_type D I1
  refine ⟨t1, t2, ?_⟩
  rw [m.trees]
  refine Calls.callWith_builtin rfl (Calls.evalArgs_plain (Calls.spliced_cons (thn (hk.run pins s1 σ H1 _ I1 q1) fun iv s2 z2 => Calls.spliced_nil ?_)))
  obtain ⟨y, H2, I2, ry, o2, xs2, k, a, D2, rfl, t, dp, q2⟩ := z2
  cases ry
  obtain ⟨vs, p, hm, hl⟩ := D2.dict I2
  exact call_meetsIn PySem.F.slot_dict_get hm.typeIs PySem.F.entry_dict_get (PySem.F.args_dict_get_2 _ _) (meetsH_dict_get _ d a D2.nm) ⟨room8 hu, k, vs, key_is I2 t dp, hm, _, H2, I2.tok _, RelO.getD (ent3_find p k) (show RelV V.non Value.none from rfl), q2⟩
theorem pe_getN2 (hu : X.A.units + 64 < cLine) (hd : PE X e td) (hk : PE X f ty) (hx : PE X g tx) (m : M2 X e "get" apos f g cpos) : PE X (.Call (.Attribute e "get" apos) [f, g] [] cpos) (tGetN2 X.prog X.w td ty tx) := by
  refine ⟨fun pins s σ H Q I h => ?_⟩
  refine wpAny_Call_method m.base m.few m.line PySem.F.plainAttrs_dict PySem.F.slot_dict_get PySem.F.type_dict_get (thn (hd.run pins s σ H _ I h) fun u s1 z => ?_)
  obtain ⟨x, H1, I1, rx, d, o, xs, rfl, D, q1⟩ := z
  cases rx
  obtain ⟨t1, t2⟩ := dn_type D I1
  refine ⟨t1, t2, ?_⟩
  rw [m.trees]
  refine Calls.callWith_builtin rfl (Calls.evalArgs_plain (Calls.spliced_cons (thn (hk.run pins s1 σ H1 _ I1 q1) fun iv s2 z2 => ?_)))
  obtain ⟨y, H2, I2, ry, q2⟩ := z2
  refine Calls.spliced_cons (thn (hx.run pins s2 σ H2 _ I2 q2) fun w s3 z3 => Calls.spliced_nil ?_)
  obtain ⟨z, H3, I3, rz, o2, xs2, k, a, D2, rfl, t, dp, q3⟩ := z3
  cases ry
  obtain ⟨vs, p, hm, hl⟩ := D2.dict I3
  exact call_meetsIn PySem.F.slot_dict_get hm.typeIs PySem.F.entry_dict_get (PySem.F.args_dict_get_3 _ _ _) (meetsH_dict_get_default _ d a D2.nm _) ⟨room8 hu, k, vs, key_is I3 t dp, hm, _, H3, I3.tok _, RelO.getD (ent3_find p k) rz, q3⟩
/-- d.setdefault(k, x), its value dropped or not -/
def tSetdN (P : Program) (w : World) (td ty tx : TE) : TE := fun σ H Q => td σ H fun x H1 => ∃ d o xs, x = .ref d ∧ DNo P w H1 d o xs ∧ ty σ H1 fun y H2 => tx σ H2 fun z H3 => ∃ o2 xs2 k a, DNo P w H3 d o2 xs2 ∧ y = .ref a ∧ Tp H3 (.ref a) k ∧ k.depth ≤ 8 ∧ xs2.length < sizeLine ∧
  (∀ v, findN xs2 k = some v → Q v H3) ∧ (k ∉ xs2.map (·.1) → ∀ o', DNo P w (upd H3 d (dnO d o')) d o' (xs2 ++ [(k, a, z)]) → Q z (upd H3 d (dnO d o')))
theorem pe_setdN (hu : X.A.units + 64 < cLine) (hd : PE X e td) (hk : PE X f ty) (hx : PE X g tx) (m : M2 X e "setdefault" apos f g cpos) : PE X (.Call (.Attribute e "setdefault" apos) [f, g] [] cpos) (tSetdN X.prog X.w td ty tx) := by
  refine ⟨fun pins s σ H Q I h => ?_⟩
  refine wpAny_Call_method m.base m.few m.line PySem.F.plainAttrs_dict PySem.F.slot_dict_setdefault PySem.F.type_dict_setdefault (thn (hd.run pins s σ H _ I h) fun u s1 z => ?_)
  obtain ⟨x, H1, I1, rx, d, o, xs, rfl, D, q1⟩ := z
  cases rx
  obtain ⟨t1, t2⟩ := dn_type D I1
  refine ⟨t1, t2, ?_⟩
  rw [m.trees]
  refine Calls.callWith_builtin rfl (Calls.evalArgs_plain (Calls.spliced_cons (thn (hk.run pins s1 σ H1 _ I1 q1) fun iv s2 z2 => ?_)))
  obtain ⟨y, H2, I2, ry, q2⟩ := z2
  refine Calls.spliced_cons (thn (hx.run pins s2 σ H2 _ I2 q2) fun w s3 z3 => Calls.spliced_nil ?_)
  obtain ⟨z, H3, I3, rz, o2, xs2, k, a, D2, rfl, t, dp, hz, k1, k2⟩ := z3
  cases ry
  obtain ⟨vs, p, hm, hl⟩ := D2.dict I3
  have fk := ent3_find p k
  refine call_setdefault_heap (hsz := by rw [hl]; omega) (room8 hu) (key_is I3 t dp) D2.nm hm (fun pr hp => ?_) fun hn h' hd' sb => ?_
  · rw [hp] at fk
    cases e1 : findN xs2 k with
    | none => rw [e1] at fk; exact fk.elim
    | some v =>
      rw [e1] at fk
      exact ⟨v, H3, I3.tok _, fk, k1 v e1⟩
  · rw [hn] at fk
    have nk : k ∉ xs2.map (·.1) := findN_none.mp (by
      cases e1 : findN xs2 k with
      | none => rfl
      | some v => rw [e1] at fk; exact fk.elim)
    have pp := ent3_put p k a rz
    rw [putN_new nk] at pp
    have hkey : ∀ x ∈ xs2 ++ [(k, a, z)], Tp H3 (.ref x.2.1) x.1 ∧ x.1.depth ≤ 8 := fun x hx => by
      rcases List.mem_append.mp hx with hx | hx
      · exact D2.key x hx
      · obtain rfl := List.mem_singleton.mp hx
        exact ⟨t, dp⟩
    obtain ⟨o', I', D'⟩ := dn_after (t' := s3.toks + (nestedKind X.prog X.w).draws k) D2 I3 hd' sb pp hkey (by rw [List.length_append]; simp; omega)
    exact ⟨z, _, I', rz, k2 nk o' D'⟩
end
end K8
end

section
set_option Elab.async false
set_option linter.all false
set_option maxRecDepth 100000
set_option maxHeartbeats 4000000
/-! K81: displays of such dicts, their walks; enumerate over a tuple. -/
namespace K8
open PySem PySem.Spec PyProof.Rows L2

/-! ### a display -/
def putAllN (xs : List (E3 V)) (ps : List (E3 V)) : List (E3 V) := ps.foldl (fun acc p => putN acc p.1 p.2.1 p.2.2) xs
theorem ent3_putAll {ps : List (E3 V)} {qs : List (E3 Value)} (p : Paired Ent3 ps qs) : ∀ {xs : List (E3 V)} {vs : List (E3 Value)}, Paired Ent3 xs vs → Paired Ent3 (putAllN xs ps) (storedAllH vs qs) := by
  induction p with
  | nil => intro xs vs h; exact h
  | @cons a b as bs h t ih =>
    intro xs vs h0
    have e := ent3_put h0 a.1 a.2.1 h.2.2
    rw [h.1, h.2.1] at e
    have e2 := ih e
    rw [← h.1, ← h.2.1] at e2
    show Paired Ent3 (putAllN (putN xs a.1 a.2.1 a.2.2) as) (storedAllH (storedH vs b.1 b.2.1 b.2.2) bs)
    rw [← h.1, ← h.2.1]
    exact e2
theorem putAllN_len (ps : List (E3 V)) : ∀ xs : List (E3 V), (putAllN xs ps).length ≤ xs.length + ps.length := by
  induction ps with
  | nil => intro xs; exact Nat.le_refl _
  | cons a as ih =>
    intro xs
    have h1 := ih (putN xs a.1 a.2.1 a.2.2)
    have h2 := putN_len xs a.1 a.2.1 a.2.2
    show (putAllN (putN xs a.1 a.2.1 a.2.2) as).length ≤ _
    rw [List.length_cons]
    omega
theorem putAllN_mem {ps : List (E3 V)} : ∀ {xs : List (E3 V)} {x : E3 V}, x ∈ putAllN xs ps → (∃ y ∈ xs, y.1 = x.1 ∧ y.2.1 = x.2.1) ∨ ∃ y ∈ ps, y.1 = x.1 ∧ y.2.1 = x.2.1 := by
  induction ps with
  | nil => intro xs x h; exact .inl ⟨x, h, rfl, rfl⟩
  | cons a as ih =>
    intro xs x h
    rcases ih (xs := putN xs a.1 a.2.1 a.2.2) h with ⟨y, hy, e1, e2⟩ | ⟨y, hy, e1, e2⟩
    · rcases putN_mem hy with ⟨z, hz, f1, f2⟩ | ⟨f1, f2⟩
      · exact .inl ⟨z, hz, f1.trans e1, f2.trans e2⟩
      · exact .inr ⟨a, List.mem_cons_self, f1.symm.trans e1, f2.symm.trans e2⟩
    · exact .inr ⟨y, List.mem_cons_of_mem _ hy, e1, e2⟩
/-- the written pairs: keys are tuples at addresses -/
def kvOf (x : E3 V) : V × V := (.ref x.2.1, x.2.2)
def tDispN (P : Program) (w : World) (trs : List (TE × TE)) : TE := fun σ H Q => ∀ p o, H p = none → DNo P w (upd H p (dnO p o)) p o [] → tPairs trs σ (upd H p (dnO p o)) fun ps H2 =>
  ∃ (o2 : Obj) (xs : List (E3 V)), DNo P w H2 p o2 [] ∧ ps = xs.map kvOf ∧ (∀ x ∈ xs, Tp H2 (.ref x.2.1) x.1 ∧ x.1.depth ≤ 8) ∧ xs.length ≤ 15 ∧ ∀ o', DNo P w (upd H2 p (dnO p o')) p o' (putAllN [] xs) → Q (.ref p) (upd H2 p (dnO p o'))
theorem carries_n {X : Cx} {pins : List (Addr × Obj)} {σ : L2.St} {H : Hp} {s : Shared} (I : Inv X pins σ H s) : ∀ {xs : List (E3 V)} {ws : List (Value × Value)}, VV (xs.map kvOf) ws → (∀ x ∈ xs, Tp H (.ref x.2.1) x.1 ∧ x.1.depth ≤ 8) →
    ∃ qs : List (E3 Value), CarriesH (nestedKind X.prog X.w) s.heap ws qs ∧ Paired Ent3 xs qs
  | [], ws, r, _ => by
    have r' : VV [] ws := r
    cases r'
    exact ⟨[], True.intro, .nil⟩
  | x :: xs, ws, r, hk => by
    have r' : VV (kvOf x :: xs.map kvOf) ws := r
    cases r' with
    | @cons a b as bs h t =>
      obtain ⟨qs, c, p⟩ := carries_n I t fun y hy => hk y (List.mem_cons_of_mem _ hy)
      obtain ⟨t1, dp⟩ := hk x List.mem_cons_self
      obtain ⟨b1, b2⟩ := b
      obtain rfl : b1 = Value.ref x.2.1 := h.1
      exact ⟨(x.1, x.2.1, b2) :: qs, ⟨rfl, rfl, key_is I t1 dp, c⟩, .cons ⟨rfl, rfl, h.2⟩ p⟩
theorem pe_dispN {X : Cx} {pos : Pos} {keys : List (Option Expr)} {values : List Expr} {trs : List (TE × TE)} (hu : X.A.units + 64 < cLine) (h : PPs X pos keys values trs) (hall : keys.all (·.isSome) = true) (hl : keys.length = values.length)
    (h0 : keys ≠ []) (h15 : keys.length ≤ 15) : PE X (.Dict keys values pos) (tDispN X.prog X.w trs) := by
  refine ⟨fun pins s σ H Q I q => ?_⟩
  have hn := I.hok.fresh (Nat.le_refl s.heap.objs.size)
  have I1 : Inv X pins σ (upd H s.heap.objs.size (dnO s.heap.objs.size { cls := .type "dict", data := .dict #[] })) { s with heap := s.heap.push { cls := .type "dict", data := .dict #[] } } :=
    I.laid (t' := s.toks) (fun _ _ q => Heap.get?_push_of_some _ q) (Nat.le_refl _) (dnO_ok (Heap.get?_push_size _ rfl))
  have hpl := pairTrees_length keys values X.env pos hall hl
  rw [arm_eval_Dict, zip_pairTrees keys values X.env pos hall hl, dictDisplay_pairs (pairTrees keys values X.env pos) (fun e => h0 (List.length_eq_zero_iff.mp (by rw [← hpl, e]; rfl))) (by rw [hpl]; omega)]
  refine wpAny_bind (wpAny_standAt (wpAny_bind (wpAny_subDictH (knd := nestedKind X.prog X.w) (Q := fun d s' => wpAny (model X.prog X.w) X.A (pure (Value.ref d)) (EP X pins σ Q) X.xe s') (room80 hu) (by rw [hpl]; exact h15) ?_)))
  refine thn (h.run pins _ σ _ _ I1 (q _ _ hn (dn_fresh s.heap I.big hn))) fun ws s2 z => ?_
  obtain ⟨ps, H2, I2, rel, o2, xs, D2, rfl, hk, hl15, q2⟩ := z
  obtain ⟨qs, c, pr⟩ := carries_n I2 rel hk
  obtain ⟨vs, p0, hd, hlen⟩ := D2.dict I2
  obtain rfl : vs = [] := List.eq_nil_of_length_eq_zero (by simpa using hlen)
  refine ⟨qs, c, hd, fun h' tk hd' sb => wpAny_pure ?_⟩
  have hkey : ∀ x ∈ putAllN [] xs, Tp H2 (.ref x.2.1) x.1 ∧ x.1.depth ≤ 8 := fun x hx => by
    rcases putAllN_mem hx with ⟨y, hy, _⟩ | ⟨y, hy, e1, e2⟩
    · cases hy
    · rw [← e1, ← e2]
      exact hk y hy
  have hsz : (putAllN [] xs).length ≤ sizeLine := by
    have := putAllN_len xs []
    rw [sizeLine_eq]
    simp at this
    omega
  obtain ⟨o', I', D'⟩ := dn_after (t' := tk) D2 I2 hd' sb (ent3_putAll pr .nil) hkey hsz
  exact ⟨.ref s.heap.objs.size, _, I', rfl, q2 o' D'⟩

/-! ### for k, v in d.items() -/
/-- an entry's values -/
theorem dn_entry {P : Program} {w : World} {es : Array DictEntry} {xs : List (E3 V)} {vs : List (E3 Value)} (he : es.toList = vs.map (entryOfKey (nestedKind P w))) (p : Paired Ent3 xs vs) {i : Nat} {x : E3 V} (hx : xs[i]? = some x) :
    ∃ hi : i < es.size, es[i].key = .ref x.2.1 ∧ RelV x.2.2 es[i].val := by
  obtain ⟨y, hy, r⟩ : ∃ y, vs[i]? = some y ∧ Ent3 x y := by
    clear he
    induction p generalizing i with
    | nil => simp at hx
    | @cons a b as bs h t ih =>
      cases i with
      | zero => simp at hx; subst hx; exact ⟨b, rfl, h⟩
      | succ i => exact ih (i := i) (by simpa using hx)
  have hl : es.size = vs.length := by rw [← Array.length_toList, he, List.length_map]
  have hi : i < es.size := by rw [hl]; exact (List.getElem?_eq_some_iff.mp hy).1
  refine ⟨hi, ?_⟩
  have e : es[i] = entryOfKey (nestedKind P w) y := by
    have e1 : es.toList[i]? = some (entryOfKey (nestedKind P w) y) := by rw [he, List.getElem?_map, hy]; rfl
    rw [Array.getElem?_toList, Array.getElem?_eq_getElem hi] at e1
    exact Option.some.inj e1
  rw [e]
  exact ⟨congrArg Value.ref r.2.1.symm, r.2.2⟩
def ItN (d : Addr) (o : Obj) (xs : List (E3 V)) : It :=
  ⟨fun i H => H d = some (dnO d o) ∧ i < xs.length, fun i H x H' => ∃ T y, xs[i]? = some y ∧ x = .ref T ∧ H T = none ∧ H' = upd H T (.tup [.ref y.2.1, y.2.2]), fun i H => H d = some (dnO d o) ∧ xs.length ≤ i⟩
theorem turn_itemsN {P : Program} {w : World} {K : PySem.W.Frag} {d : Addr} {o : Obj} {es : Array DictEntry} {ep : Nat} {xs : List (E3 V)} {vs : List (E3 Value)} {elts : List Expr} {kk : Nat} {tpos : Pos} (it : Addr) (hx : o.ExactDict) (hod : o.data = .dict es ep)
    (he : es.toList = vs.map (entryOfKey (nestedKind P w))) (p : Paired Ent3 xs vs) :
    Turn P w K (.Tuple elts kk tpos) (ItN d o xs) [it] it (fun i h => ∃ ok ov, IsItemIter h it d i es.size ep ok ov) where
  mem := List.mem_singleton.mpr rfl
  obj := fun i h st b hb => by
    obtain rfl := List.mem_singleton.mp hb
    obtain ⟨ok, ov, e⟩ := st
    exact ⟨_, e, fun v z => nomatch z⟩
  keep := fun i h h' st k => let ⟨ok, ov, e⟩ := st; ⟨ok, ov, k it (List.mem_singleton.mpr rfl) _ e⟩
  item := by
    intro X hP hw hK hc i pins s σ H E I hf st hg
    subst hP hw hK
    obtain ⟨hd, hi⟩ := hg
    have raw : s.heap.DictRaw d es ep := ⟨o, dnO_get I.hok hd, hx, hod⟩
    obtain ⟨x, hxi⟩ : ∃ x, xs[i]? = some x := ⟨xs[i], List.getElem?_eq_getElem hi⟩
    obtain ⟨hie, hkey, hval⟩ := dn_entry he p hxi
    obtain ⟨ok, ov, hit⟩ := st
    have hlt : it < s.heap.objs.size := Heap.lt_size hit
    refine wpAny_pyNext_items_item_raw hit raw hie fun h' ho hT hz hk => ⟨_, rfl, wpAny_letOwnedTupleGo_items (s := { s with heap := h' }) ho fun h'' he' sb => ?_⟩
    have hT2 : h''.get? s.heap.objs.size = some { cls := .type "tuple", data := .seq #[es[i].key, es[i].val] } := (sb.2 _ (Nat.ne_of_gt hlt)).trans hT
    have new : ObjOk X.prog X.w (upd H s.heap.objs.size (.tup [.ref x.2.1, x.2.2])) h'' s.heap.objs.size (.tup [.ref x.2.1, x.2.2]) :=
      ⟨Nat.le_of_ble_eq_true rfl, [es[i].key, es[i].val], .cons hkey (.cons hval .nil), ⟨_, hT2, rfl, _, rfl⟩⟩
    have I1 : Inv X pins σ (upd H s.heap.objs.size (.tup [.ref x.2.1, x.2.2])) { s with heap := h'' } :=
      I.turnedNew (t' := s.toks) (ch := [it]) (fun b ob hb e => (sb.2 b (fun z => hb (List.mem_singleton.mpr z))).trans (hk b ob (fun z => hb (List.mem_singleton.mpr z)) e)) hf (Nat.le_refl _) new
    refine ⟨.ref s.heap.objs.size, _, I1, rfl, ⟨_, x, hxi, rfl, I.hok.fresh (Nat.le_refl _), rfl⟩, ⟨es[i].key, es[i].val, he'⟩, fun b hb => ?_⟩
    obtain rfl := List.mem_singleton.mp hb
    rw [upd_ne (Nat.ne_of_lt hlt)]
    exact (hf b hb).1
  done := by
    intro X hP hw hK hc i pins s σ H E I hf st hg
    subst hP hw hK
    obtain ⟨hd, hi⟩ := hg
    obtain ⟨f0, f1, f2, f3, f4, f5⟩ := hf it (List.mem_singleton.mpr rfl)
    have raw : s.heap.DictRaw d es ep := ⟨o, dnO_get I.hok hd, hx, hod⟩
    have hl : es.size = vs.length := by rw [← Array.length_toList, he, List.length_map]
    have hl2 := Paired.length p
    obtain ⟨ok, ov, hit⟩ := st
    exact wpAny_pyNext_items_end_raw (I.ok.hd hc) hit raw (by omega) fun h' eb => ⟨rfl, I.turned (t' := s.toks) (fun b ob hb e => eb b ob hb e) f0 f1 f3 f4 f5⟩
  self := fun A i s Q E st h => let ⟨_, _, e⟩ := st; wpAny_pyIter_itemiter e h
def iItemsN (P : Program) (w : World) (td : TE) : TI := fun σ H R => td σ H fun x H1 => ∃ d o xs, x = .ref d ∧ DNo P w H1 d o xs ∧ R (ItN d o xs) H1
theorem pi_itemsN {X : Cx} {e : Expr} {td : TE} {apos cpos : Pos} {elts : List Expr} {kk : Nat} {tpos : Pos} (he : PE X e td) (hbase : attributeBase e "items" X.env (eval e X.env) = eval e X.env := by rfl) (hline : (apos.endLine == cpos.line) = true := by rfl) :
    PI X (.Tuple elts kk tpos) (.Call (.Attribute e "items" apos) [] [] cpos) (iItemsN X.prog X.w td) := by
  refine ⟨fun pins s σ H R I h => ?_⟩
  refine wpAny_Call_method (T := "dict") (id := "dict.items") hbase rfl hline F.plainAttrs_dict F.slot_dict_items F.type_dict_items (thn (he.run pins s σ H _ I h) fun u s1 z => ?_)
  obtain ⟨x, H1, I1, rx, d, o, xs, rfl, D, q⟩ := z
  cases rx
  obtain ⟨t1, t2⟩ := dn_type D I1
  refine ⟨t1, t2, ?_⟩
  obtain ⟨es, ep, vs, hx, hdt, hes, pr⟩ := D.raw
  have raw : s1.heap.DictRaw d es ep := ⟨o, dnO_get I1.hok D.at_, hx, hdt⟩
  have I2 : Inv X pins σ H1 { s1 with heap := s1.heap.push { cls := .type "dict_items", data := .fields #[.ref d] } } := I1.kept (t' := s1.toks) fun b ob q => Heap.get?_push_of_some _ q
  have fin : wpAny (model X.prog X.w) X.A (pyIter (.ref s1.heap.objs.size)) (PIE X pins σ (.Tuple elts kk tpos) R) X.xe { s1 with heap := s1.heap.push { cls := .type "dict_items", data := .fields #[.ref d] } } := by
    refine wpAny_pyIter_items_raw (d := d) ⟨_, Heap.get?_push_size _ rfl, rfl, rfl⟩ (raw.at fun _ q => Heap.get?_push_of_some _ q) (pi_one (tk := s1.toks) I2 _ (turn_itemsN _ hx hdt hes pr) ⟨.none, .none, ?_⟩ q)
    exact Heap.get?_push_size _ rfl
  show wpAny _ _ (callWith cpos (.builtin "dict.items") [.ref d] [] []) _ X.xe s1
  exact method_meetsIn F.slot_dict_items F.entry_dict_items rfl (PySem.evalArgs_none ⟨rfl, t1, F.args_dict_items_1 _, _, meets_dict_items_raw d D.nm, ⟨es, ep, raw⟩, fin⟩)
/-- the loop's word -/
theorem for_itemsN {d : Addr} {o : Obj} {xs : List (E3 V)} {g : TG} {tb : TS} {D : Ends} {σ : L2.St} {H : Hp} (Pv : Nat → L2.St → Hp → Prop) (h0 : Pv 0 σ H) (hl : ∀ i σ H, Pv i σ H → H d = some (dnO d o))
    (hs : ∀ (i : Nat) (y : E3 V) (T : Addr) (σ : L2.St) (H : Hp), xs[i]? = some y → Pv i σ H → H T = none → g (.ref T) σ (upd H T (.tup [.ref y.2.1, y.2.2])) fun σ2 H2 => tb { D with nx := Pv (i + 1), ct := Pv (i + 1), bk := D.nx } σ2 H2) (hd : ∀ σ H, Pv xs.length σ H → D.nx σ H) :
    ∃ W : Nat → Nat → L2.St → Hp → Prop, (∃ m, W 0 m σ H) ∧ ∀ i m σ H, W i m σ H →
      ((ItN d o xs).stop i H ∧ D.nx σ H) ∨ ((ItN d o xs).go i H ∧ ∃ N : L2.St → Hp → Prop, (∀ σ' H', N σ' H' → ∃ m', m' < m ∧ W (i + 1) m' σ' H') ∧ ∀ x H', (ItN d o xs).yld i H x H' → g x σ H' fun σ2 H2 => tb { D with nx := N, ct := N, bk := D.nx } σ2 H2) := by
  refine ⟨fun i m σ H => i + m = xs.length ∧ Pv i σ H, ⟨xs.length, Nat.zero_add _, h0⟩, fun i m σ H hw => ?_⟩
  obtain ⟨hm, hp⟩ := hw
  have hlk := hl i σ H hp
  by_cases hi : i < xs.length
  · refine .inr ⟨⟨hlk, hi⟩, Pv (i + 1), fun σ' H' hn => ⟨m - 1, by omega, by omega, hn⟩, fun x H' hy => ?_⟩
    obtain ⟨T, y, hxi, rfl, hT, rfl⟩ := hy
    exact hs i y T σ H hxi hp hT
  · obtain rfl : i = xs.length := by omega
    exact .inl ⟨⟨hlk, Nat.le_refl _⟩, hd σ H hp⟩
end K8
end

section
set_option Elab.async false
set_option linter.all false
set_option maxRecDepth 100000
set_option maxHeartbeats 4000000
/-! K81: sorted of data. -/
namespace K8
open PySem PySem.Spec PyProof.Rows L2

mutual
theorem tp_reads {P : Program} {w : World} {H : Hp} {h : Heap} (ok : HOk P w H h) : ∀ (d : Dt) (v : V) (u : Value), Tp H v d → RelV v u → Reads h u d.data []
  | .num i, _, u, t, r => by
    rw [t.num_inv] at r
    obtain ⟨tk, rfl⟩ := r
    exact .int i tk
  | .text x, _, u, t, r => by
    rw [t.txt_inv] at r
    obtain ⟨tk, rfl⟩ := r
    exact .str x tk
  | .tup ds, _, u, t, r => by
    obtain ⟨a, xs, rfl, ha, hx⟩ := t.tup_inv
    cases r
    obtain ⟨_, its, rv, o, ho, hc, n, hd⟩ := (show ObjOk P w H h a (.tup xs) from ha.ok ok)
    exact .tuple ho hc hd (tpA_reads ok ds xs its hx rv)
  | .none, _, u, t, r => by cases t
theorem tpA_reads {P : Program} {w : World} {H : Hp} {h : Heap} (ok : HOk P w H h) : ∀ (ds : List Dt) (vs : List V) (us : List Value), TpA H vs ds → Vals vs us → ReadsAll h us (NestedKey.datas ds) []
  | [], _, us, t, r => by
    rw [t.nil_inv] at r
    cases r
    exact .nil
  | d :: ds, _, us, t, r => by
    obtain ⟨v, ws, rfl, t1, t2⟩ := t.cons_inv
    cases r with
    | cons r1 r2 => exact .cons (as := []) (bs := []) (tp_reads ok d v _ t1 r1) (tpA_reads ok ds ws _ t2 r2)
end
theorem datas_map : ∀ ds : List Dt, NestedKey.datas ds = ds.map NestedKey.data
  | [] => rfl
  | d :: ds => congrArg (d.data :: ·) (datas_map ds)
mutual
theorem data_depth : ∀ d : Dt, d.data.depth = d.depth
  | .none => rfl
  | .num _ => rfl
  | .text _ => rfl
  | .tup ds => by
    show PyData.depth (.tuple (NestedKey.datas ds)) = NestedKey.depthAll ds + 1
    rw [PyData.depth, datas_depth ds]
theorem datas_depth : ∀ ds : List Dt, PyData.depthAll (NestedKey.datas ds) = NestedKey.depthAll ds
  | [] => rfl
  | d :: ds => by
    show PyData.depthAll (d.data :: NestedKey.datas ds) = max d.depth (NestedKey.depthAll ds)
    rw [PyData.depthAll, data_depth d, datas_depth ds]
end

/-- the sorted list -/
def srtD (ds : List Dt) : List Dt := ds.mergeSort (PySem.W.dataLe false NestedKey.data)
theorem srtD_perm (ds : List Dt) : (srtD ds).Perm ds := List.mergeSort_perm _ _
/-- what can be sorted: alike all; shallow -/
structure SortOk (ds : List Dt) : Prop where
  alike : PySem.W.AllAlike (ds.map NestedKey.data)
  kind : (∀ d ∈ ds, ∃ es, d = .tup es) ∨ ∀ d ∈ ds, ∃ x, d = .text x
  dp : ∀ d ∈ ds, d.depth ≤ 8
  sz : ds.length ≤ sizeLine

/-! ### any tuples -/
section
variable {prog : Program} {w : World} {A : Around} {s : Shared} {E : Value → Shared → Prop}
/-- < of two tuples of one type, by the slot -/
theorem oneLt_tup {xs ys : List PyData} {a b : Value} {as bs : List Addr} {f : Bool} {Q : Bool → Shared → Prop} (ra : Reads s.heap a (.tuple xs) as) (rb : Reads s.heap b (.tuple ys) bs) (h : PySem.W.alike (.tuple xs) (.tuple ys) = true)
    (hu : A.units + min (PyData.tuple xs).depth (PyData.tuple ys).depth < cLine) (hq : Q (PySem.W.dataLt (.tuple xs) (.tuple ys)) s) : wpAny (model prog w) A (oneLt' f a b) Q E s := by
  cases f with
  | false => exact PySem.W.oneLt_alike (fun z => nomatch z) ra rb h (fun z => nomatch z) hu hq
  | true =>
    have hal : PySem.W.alikeAll xs ys = true := by simpa [PySem.W.alike] using h
    cases ra with
    | @tuple l o vs n _ _ h1 h2 h3 h4 =>
      cases rb with
      | @tuple l' o' vs' n' _ _ k1 k2 k3 k4 =>
        have n1 : vs.size = xs.length := by simpa using SeqAt.ReadsAll.length _ _ _ h4
        have n2 : vs'.size = ys.length := by simpa using SeqAt.ReadsAll.length _ _ _ k4
        rw [PySem.W.dataLt_tuple, ← PySem.W.firstLt_toks xs ys hal, ← n1, ← n2] at hq
        rw [oneLt'_eq]
        simp only [if_true]
        obtain ⟨cls, dd, data, sl⟩ := o
        obtain ⟨cls2, dd2, data2, sl2⟩ := o'
        simp only at h2 h3 k2 k3
        subst h2 h3 k2 k3
        refine wpAny_bind (wpAny_cRoomFor (SeqAt.room_here hu) ?_)
        refine wpAny_bind (wpAny_callSpecialIfBound?_slot (T := "tuple") ⟨_, h1, rfl⟩ F.slot_tuple_lt (call_meets F.slot_tuple_lt ⟨_, h1, rfl⟩ F.entry_tuple_lt (F.args_tuple_lt_2 _ _)
          (SeqAt.tuple_ltAt l l' vs vs' n n' dd dd2 sl sl2 (SeqAt.pairEq xs ys) (fun j => PySem.W.dataLt (xs.getD j .none) (ys.getD j .none))) ⟨h1, k1, fun j j1 j2 => ?_, fun j j1 j2 hj => ?_, ?_⟩))
        · have q := PySem.W.eqAt_alikeAll xs ys A.in1 s vs.toList vs'.toList _ _ h4 k4 hal (SeqAt.room_in hu) j (by simpa using j1) (by simpa using j2)
          simpa using q
        · have q := PySem.W.rcLt_alikeAll xs ys A.in1 s vs.toList vs'.toList _ _ h4 k4 hal (SeqAt.room_in hu) j (by simpa using j1) (by simpa using j2) hj
          simpa using q
        · exact wpAny_truthy_bool hq
/-- a tuple with an item -/
def neD : PyData → Bool
  | .tuple (_ :: _) => true
  | _ => false
/-- which of the first items are there -/
theorem firsts_any : ∀ {vs : List Value} {ds : List PyData} {Q : List (Option Value) → Shared → Prop}, PySem.W.EachIs (fun v d => ∃ as, Reads s.heap v d as) vs ds → (∀ d ∈ ds, ∃ xs, d = .tuple xs) →
    (∀ fs : List (Option Value), fs.map (·.isSome) = ds.map neD → Q fs s) → wpAny (model prog w) A (vs.mapM firstOfTuple') Q E s
  | _, _, Q, .nil, _, h => by
    rw [List.mapM_nil]
    exact wpAny_pure (h [] rfl)
  | _, _, Q, .cons (b := d) (a := v) (as := vs) (bs := ds) ⟨as, r⟩ t, ht, h => by
    obtain ⟨xs, rfl⟩ := ht d List.mem_cons_self
    rw [List.mapM_cons]
    refine wpAny_bind ?_
    rw [PySem.W.kas_first_eq]
    refine wpAny_bind (PySem.W.Looks.here (PySem.W.looks_reads r) ?_)
    rw [if_neg (show ¬ ((PySem.W.dataType (.tuple xs) != Value.type "tuple") = true) by simp [PySem.W.dataType])]
    cases r with
    | @tuple l o its n _ _ h1 h2 h3 h4 =>
      refine wpAny_bind (listItems_at h1 h3 (wpAny_pure ?_))
      refine wpAny_bind (firsts_any (Q := fun fs s' => wpAny (model prog w) A (pure (its[0]? :: fs)) Q E s') t (fun d hd => ht d (List.mem_cons_of_mem _ hd)) fun fs hl => wpAny_pure (h _ ?_))
      rw [List.map_cons, List.map_cons, hl]
      refine congrArg (· :: ds.map neD) ?_
      have n1 : its.size = xs.length := by simpa using SeqAt.ReadsAll.length _ _ _ h4
      cases xs with
      | nil =>
        have z : its[0]? = none := Array.getElem?_eq_none (by rw [n1]; exact Nat.le_refl 0)
        rw [z]
        rfl
      | cons x r =>
        have z : 0 < its.size := by rw [n1]; exact Nat.succ_pos _
        rw [Array.getElem?_eq_getElem z]
        rfl
theorem all_of_map {α : Type} (f : α → Bool) : ∀ l : List α, (l.map f).all id = l.all f
  | [] => rfl
  | a :: l => by rw [List.map_cons, List.all_cons, List.all_cons, all_of_map f l]; rfl
theorem kind_mixed {vs : List Value} {d0 : PyData} {ds : List PyData} {Q : SortKind → Shared → Prop} (e : PySem.W.EachIs (fun v d => ∃ as, Reads s.heap v d as) vs (d0 :: ds)) (ht : ∀ d ∈ d0 :: ds, ∃ xs, d = .tuple xs)
    (hne : (d0 :: ds).all neD = false) (h : Q (if neD d0 = true then general' else oneType') s) : wpAny (model prog w) A (keyKind' vs.toArray) Q E s := by
  rw [keyKind'_eq, List.mapM_toArray, map_eq_pure_bind]
  refine wpAny_bind (wpAny_bind (firsts_any e ht fun fs hf => wpAny_pure ?_))
  have hall : (fs.toArray.all fun x => x.isSome) = false := by
    rw [List.all_toArray, ← all_of_map, hf, all_of_map]
    exact hne
  rw [if_neg (by rw [hall]; exact Bool.false_ne_true)]
  obtain ⟨f0, fr, rfl⟩ : ∃ f0 fr, fs = f0 :: fr := by
    cases fs with
    | nil => simp at hf
    | cons a b => exact ⟨a, b, rfl⟩
  have hf0 : f0.isSome = neD d0 := by
    rw [List.map_cons, List.map_cons] at hf
    exact (List.cons.inj hf).1
  have hb : (((f0 :: fr).toArray[0]?.bind id).isSome) = neD d0 := by
    rw [← hf0]
    simp
  rw [hb]
  by_cases hd : neD d0 = true
  · rw [if_pos hd] at h ⊢
    exact wpAny_pure h
  · rw [if_neg hd] at h ⊢
    rw [oneTypeOnly'_eq, List.mapM_toArray, map_eq_pure_bind]
    refine wpAny_bind (wpAny_bind (wpAny_bind (PySem.W.kas_mapM (r := Value.type "tuple") _ (fun v hv Q' hq => ?_) (wpAny_pure ?_))))
    · obtain ⟨d, hd, as, r⟩ := e.left v hv
      obtain ⟨xs, rfl⟩ := ht d hd
      exact (PySem.W.looks_reads r).here hq
    · have hl := e.length
      have hall2 : ((vs.map fun _ => Value.type "tuple").toArray.all fun x => x == Value.type "tuple") = true := by
        simp only [List.all_toArray, List.all_map, List.all_eq_true]
        intro _ _
        exact beq_self_eq_true _
      have h0 : (vs.map fun _ => Value.type "tuple").toArray[0]? = some (Value.type "tuple") := by
        cases vs with
        | nil => simp at hl
        | cons a b => simp
      rw [h0]
      simp only [hall2, if_true]
      exact wpAny_pure (wpAny_pure h)
theorem sorts_tups {vs : List Value} {ds : List PyData} (e : PySem.W.EachIs (fun v d => ∃ as, Reads s.heap v d as) vs ds) (hal : PySem.W.AllAlike ds) (ht : ∀ d ∈ ds, ∃ xs, d = .tuple xs) (hu : ∀ d ∈ ds, A.units + d.depth < cLine) :
    PySem.W.SortsAt prog w A s (PySem.W.dataKind s.heap ds) vs := by
  by_cases hne : ∀ d ∈ ds, ∃ x r, d = .tuple (x :: r)
  · exact PySem.W.SortsAt.data e hal (.inl hne) hu
  have room : ∀ {d d' : PyData}, d ∈ ds → A.units + min d.depth d'.depth < cLine := fun {d d'} hd => Nat.lt_of_le_of_lt (Nat.add_le_add_left (Nat.min_le_left _ _) _) (hu d hd)
  have lt : ∀ kd : SortKind, (kd = general' ∨ kd = oneType') → H.LtAt prog w A s (PySem.W.dataKind s.heap ds) kd := by
    intro kd hkd E x y a b Q ha hb hq
    obtain ⟨d, as, hd, ra, rfl⟩ := PySem.W.dataKind_inv ha
    obtain ⟨d', as', hd', rb, rfl⟩ := PySem.W.dataKind_inv hb
    obtain ⟨xs, rfl⟩ := ht d hd
    obtain ⟨ys, rfl⟩ := ht d' hd'
    rcases hkd with rfl | rfl
    · show wpAny _ _ (oneLt' false x y) _ _ _
      exact oneLt_tup ra rb (hal _ hd _ hd') (room hd) hq
    · rw [keyLt'_oneType]
      exact oneLt_tup ra rb (hal _ hd _ hd') (room hd) hq
  refine ⟨fun v hv => ?_, ?_⟩
  · obtain ⟨d, hd, as, r⟩ := e.left v hv
    exact ⟨_, PySem.W.dataKind_some hal hd r⟩
  · obtain ⟨d0, rest, rfl⟩ : ∃ d0 rest, ds = d0 :: rest := by
      cases ds with
      | nil => exact absurd (fun d hd => nomatch hd) hne
      | cons a b => exact ⟨a, b, rfl⟩
    refine ⟨if neD d0 = true then general' else oneType', lt _ (by by_cases z : neD d0 = true <;> simp [z]), fun _ E Q hq => kind_mixed e ht ?_ hq⟩
    cases q : (d0 :: rest).all neD with
    | false => rfl
    | true =>
      refine absurd (fun d hd => ?_) hne
      have z := List.all_eq_true.mp q d hd
      obtain ⟨xs, rfl⟩ := ht d hd
      cases xs with
      | nil => exact absurd z (by simp [neD])
      | cons x r => exact ⟨x, r, rfl⟩
end
end K8
end

section
set_option Elab.async false
set_option linter.all false
set_option maxRecDepth 100000
set_option maxHeartbeats 4000000
/-! K81: sorted(..) as rules: of a list, a tuple, a dict, its items. -/
namespace K8
open PySem PySem.Spec PyProof.Rows L2

/-- more than one object tracked anew -/
def updL (H : Hp) : List (Addr × HO) → Hp
  | [] => H
  | (a, o) :: r => upd (updL H r) a o
theorem updL_out {H : Hp} {b : Addr} : ∀ {l : List (Addr × HO)}, b ∉ l.map (·.1) → updL H l b = H b
  | [], _ => rfl
  | (a, o) :: r, h => by
    rw [List.map_cons, List.mem_cons, not_or] at h
    show upd (updL H r) a o b = H b
    rw [upd_ne h.1, updL_out h.2]
theorem updL_in {H : Hp} {b : Addr} {o : HO} : ∀ {l : List (Addr × HO)}, (l.map (·.1)).Nodup → (b, o) ∈ l → updL H l b = some o
  | [], _, h => by cases h
  | (a, u) :: r, n, h => by
    rw [List.map_cons, List.nodup_cons] at n
    show upd (updL H r) a u b = some o
    rcases List.mem_cons.mp h with e | h
    · cases e
      exact upd_same
    · have nb : b ≠ a := fun z => n.1 (List.mem_map.mpr ⟨(b, o), h, z⟩)
      rw [upd_ne nb, updL_in n.2 h]
theorem updL_from {H : Hp} {b : Addr} {o : HO} : ∀ {l : List (Addr × HO)}, updL H l b = some o → (b, o) ∈ l ∨ (b ∉ l.map (·.1) ∧ H b = some o)
  | [], h => .inr ⟨by simp, h⟩
  | (a, u) :: r, h => by
    by_cases e : b = a
    · subst e
      have h' : upd (updL H r) b u b = some o := h
      rw [upd_same] at h'
      cases h'
      exact .inl List.mem_cons_self
    · have h' : upd (updL H r) a u b = some o := h
      rw [upd_ne e] at h'
      rcases updL_from h' with z | ⟨z1, z2⟩
      · exact .inl (List.mem_cons_of_mem _ z)
      · exact .inr ⟨by rw [List.map_cons, List.mem_cons, not_or]; exact ⟨e, z1⟩, z2⟩
theorem updL_same {H : Hp} {l : List (Addr × HO)} (h : ∀ a ∈ l.map (·.1), H a = none) : Same H (updL H l) := fun b o e => by
  rw [updL_out (fun z => by rw [h b z] at e; cases e)]
  exact e
section
variable {X : Cx} {pins : List (Addr × Obj)} {σ : L2.St} {H : Hp} {s : Shared}
/-- new tuples tracked, all at once -/
theorem laid_tups {h' : Heap} {t' : Nat} (I : Inv X pins σ H s) (k : ∀ b u, s.heap.get? b = some u → h'.get? b = some u) {l : List (Addr × List V)} (n : (l.map (·.1)).Nodup)
    (hl : ∀ p ∈ l, s.heap.objs.size ≤ p.1 ∧ p.2.length ≤ sizeLine ∧ ∃ its : List Value, Vals p.2 its ∧ IsTup h' p.1 its.toArray) :
    Inv X pins σ (updL H (l.map fun p => (p.1, HO.tup p.2))) { s with heap := h', toks := t' } ∧ Same H (updL H (l.map fun p => (p.1, HO.tup p.2))) ∧ ∀ p ∈ l, updL H (l.map fun p => (p.1, HO.tup p.2)) p.1 = some (.tup p.2) := by
  have ek : (l.map fun p => (p.1, HO.tup p.2)).map (·.1) = l.map (·.1) := by rw [List.map_map]; rfl
  have fr : ∀ a ∈ (l.map fun p => (p.1, HO.tup p.2)).map (·.1), H a = none := fun a ha => by
    rw [ek] at ha
    obtain ⟨p, hp, rfl⟩ := List.mem_map.mp ha
    exact I.hok.fresh (hl p hp).1
  have sm := updL_same fr
  refine ⟨I.un (Un.mk (fun b o e nb _ _ => k b o e) (fun b o e nb _ _ => ⟨o.slots, k b o e⟩) (fun b o e nb _ => ?_) (fun b o e _ => ⟨o, k b o e⟩) (fun b xs e => sm _ _ e) (fun b o u e => sm _ _ e) fun b ps e => ⟨#[], ?_⟩) fun b u e => ?_, sm, fun p hp => ?_⟩
  · rw [updL_out]
    · exact nb
    · rw [ek]
      intro hb
      obtain ⟨p, hp, rfl⟩ := List.mem_map.mp hb
      exact absurd (Heap.lt_size e) (Nat.not_lt.mpr (hl p hp).1)
  · rw [sm _ _ e]
    simp
  · rcases updL_from e with z | ⟨z1, z2⟩
    · obtain ⟨p, hp, ep⟩ := List.mem_map.mp z
      cases ep
      obtain ⟨_, h2, its, rv, it⟩ := hl p hp
      exact ⟨h2, its, rv, it⟩
    · exact (I.hok b u z2).stay (fun c v _ q => k c v q) (fun c q => sm _ _ q) fun c xs q => sm _ _ q
  · exact updL_in (by rw [ek]; exact n) (List.mem_map.mpr ⟨p, hp, rfl⟩)
/-- all kept, whatever was drawn -/
theorem kept_any {s' : Shared} (I : Inv X pins σ H s) (ho : s'.os = s.os) (hg : s'.gens = s.gens) (k : ∀ b u, s.heap.get? b = some u → s'.heap.get? b = some u) : Inv X pins σ H s' :=
  I.call' (ch := []) ho (Un.kept k) (I.hok.kept k) (by rw [hg]; exact I.bare) fun b hb => nomatch hb
theorem each_tp {P : Program} {w : World} {H : Hp} {h : Heap} (ok : HOk P w H h) : ∀ (ds : List Dt) {xs : List V} {us : List Value}, TpA H xs ds → Vals xs us →
    PySem.W.EachIs (fun u d => ∃ x, RelV x u ∧ Tp H x d) us ds ∧ PySem.W.EachIs (fun u (d : Dt) => Reads h u d.data []) us ds
  | [], xs, us, t, r => by
    rw [t.nil_inv] at r
    cases r
    exact ⟨.nil, .nil⟩
  | d :: ds, xs, us, t, r => by
    obtain ⟨v, ws, rfl, t1, t2⟩ := t.cons_inv
    cases r with
    | cons r1 r2 =>
      obtain ⟨a, b⟩ := each_tp ok ds t2 r2
      exact ⟨.cons ⟨_, r1, t1⟩ a, .cons (tp_reads ok _ _ _ t1 r1) b⟩
theorem each_back {H : Hp} : ∀ {us : List Value} {ds : List Dt}, PySem.W.EachIs (fun u d => ∃ x, RelV x u ∧ Tp H x d) us ds → ∃ xs, TpA H xs ds ∧ Vals xs us
  | _, _, .nil => ⟨[], .nil, .nil⟩
  | _, _, .cons ⟨x, r, t⟩ h => let ⟨xs, a, b⟩ := each_back h; ⟨x :: xs, .cons t a, .cons r b⟩
/-- list.sort of values that are data, in a list that is not tracked: what it leaves -/
theorem sort_raw {A : Around} {a : Addr} {vs : List Value} {n : Nat} {ds : List Dt} {xs : List V} {Q : Value → Shared → Prop} {E : Value → Shared → Prop} (ok : HOk X.prog X.w H s.heap) (ho : s.heap.get? a = some (seqObj "list" vs.toArray n)) (hn : H a = none)
    (rv : Vals xs vs) (t : TpA H xs ds) (S : SortOk ds) (hu : A.units + 16 < cLine)
    (h : ∀ out ys, Vals ys out → TpA H ys (srtD ds) → Q .none { s with heap := sortedHeap s.heap a vs out.toArray }) : wpAny (model X.prog X.w) A (call (.builtin "list.sort") [.ref a]) Q E s := by
  obtain ⟨e1, e2⟩ := each_tp ok ds t rv
  have hL : vs.length ≤ sizeLine := by rw [← rv.length, t.length]; exact S.sz
  have er : PySem.W.EachIs (fun v (d : Dt) => ∃ as, Reads (PySem.W.sortingHeap s.heap a vs) v d.data as) vs ds := by
    refine PySem.W.EachIs.mono (fun v d z => ?_) (PySem.W.each_mem e2)
    have hm : d.data ∈ ds.map NestedKey.data := List.mem_map.mpr ⟨d, z.2, rfl⟩
    exact ⟨[], PySem.W.Reads.keepBut (fun _ _ hb q => PySem.W.sortingHeap_old hb q) (fun o q => by rw [ho] at q; cases q; rfl) _ _ _ (S.alike _ hm _ hm) z.1 (fun z => nomatch z)⟩
  have er2 := PySem.W.each_map (R := fun v d => ∃ as, Reads (PySem.W.sortingHeap s.heap a vs) v d as) NestedKey.data er
  have dp : ∀ d ∈ ds.map NestedKey.data, d.depth ≤ 8 := fun d hd => by
    obtain ⟨y, hy, rfl⟩ := List.mem_map.mp hd
    rw [data_depth]
    exact S.dp y hy
  have SA : PySem.W.SortsAt X.prog X.w A.in1 { s with heap := PySem.W.sortingHeap s.heap a vs } (PySem.W.dataKind (PySem.W.sortingHeap s.heap a vs) (ds.map NestedKey.data)) vs := by
    have hu' : ∀ d ∈ ds.map NestedKey.data, A.in1.units + d.depth < cLine := fun d hd => by
      have q := dp d hd
      show A.units + 1 + d.depth < cLine
      omega
    rcases S.kind with ht | hk
    · refine sorts_tups (s := { s with heap := PySem.W.sortingHeap s.heap a vs }) er2 S.alike (fun d hd => ?_) hu'
      obtain ⟨y, hy, rfl⟩ := List.mem_map.mp hd
      obtain ⟨es, rfl⟩ := ht y hy
      exact ⟨_, rfl⟩
    · refine PySem.W.SortsAt.data (s := { s with heap := PySem.W.sortingHeap s.heap a vs }) er2 S.alike (.inr fun d hd => ?_) hu'
      obtain ⟨y, hy, rfl⟩ := List.mem_map.mp hd
      obtain ⟨x, rfl⟩ := hk y hy
      exact ⟨fun z => (nomatch z), fun xs z => nomatch z⟩
  refine wpAny_call_entry slot_list_sort ⟨_, ho, rfl⟩ entry_list_sort (PySem.W.list_sort_vals ho SA hL ⟨.none, rfl, ?_⟩) (args_list_sort _)
  obtain ⟨ys, t', r'⟩ := each_back (PySem.W.sortVals_data false e1 er S.alike)
  exact h _ ys r' t'
/-- sorted(r), r's items once gathered: a new list -/
theorem sorted_by {r : Addr} {Q : VK} (hu : X.A.units + 64 < cLine)
    (hcol : wpAny (model X.prog X.w) X.A.in1 (collect (.ref r)) (fun vs s1 => ∃ H1 xs ds, Inv X pins σ H1 s1 ∧ Vals xs vs ∧ TpA H1 xs ds ∧ SortOk ds ∧ ∀ p ys, H1 p = none → TpA H1 ys (srtD ds) → Q (.ref p) (upd H1 p (.lst ys))) X.xe s) :
    wpAny (model X.prog X.w) X.A (call (.builtin "sorted") [.ref r]) (EP X pins σ Q) X.xe s := by
  refine Calls.call_function_entry kind_sorted plain_sorted entry_sorted (args_sorted1 _) ?_
  unfold Builtin.«sorted»
  refine wpAny_bind (m := checkCount "sorted" 1 1 _) (wpAny_pure ?_)
  refine wpAny_bind (thn hcol fun vs s1 z => ?_)
  obtain ⟨H1, xs, ds, I1, rv, t, S, q⟩ := z
  have hL : vs.length ≤ sizeLine := by rw [← rv.length, t.length]; exact S.sz
  refine wpAny_bind (wpAny_newList ?_ hL)
  have hn : H1 s1.heap.objs.size = none := I1.hok.fresh (Nat.le_refl _)
  have ok2 : HOk X.prog X.w H1 (s1.heap.push (seqObj "list" vs.toArray 0)) := I1.hok.kept fun b u e => Heap.get?_push_of_some _ e
  have hoL : (s1.heap.push (seqObj "list" vs.toArray 0)).get? s1.heap.objs.size = some (seqObj "list" vs.toArray 0) := Heap.get?_push_size _ rfl
  refine wpAny_bind (wpAny_holding (sort_raw (s := { s1 with heap := s1.heap.push (seqObj "list" vs.toArray 0) }) ok2 hoL hn rv t S (by show X.A.units + 1 + 16 < cLine; omega) fun out ys r' t' => ?_))
  obtain ⟨e', he'⟩ := sortedHeap_at (vs := vs) (out := out.toArray) hoL
  have hlen : ys.length ≤ sizeLine := by rw [t'.length, (srtD_perm ds).length_eq]; exact S.sz
  refine wpAny_pure ⟨_, rfl, .ref s1.heap.objs.size, upd H1 s1.heap.objs.size (.lst ys), I1.laid (t' := s1.toks) (fun b u e => ?_) (Nat.le_refl _) ⟨hlen, out, e', r', he'⟩, rfl, q _ ys hn t'⟩
  rw [sortedHeap_old (Nat.ne_of_lt (Heap.lt_size e)) (by rw [size_push']; exact Nat.lt_succ_of_lt (Heap.lt_size e))]
  exact Heap.get?_push_of_some _ e
end
section
variable {X : Cx}
/-- sorted(xs): a list or a tuple of data -/
def rSortQ (K : PySem.W.Frag) : List V → Hp → VK → Prop := fun vs H Q => ∃ (a : Addr) (xs : List V) (ds : List Dt), vs = [V.ref a] ∧ (SqL K H a xs ∨ SqT K H a xs) ∧ TpA H xs ds ∧ SortOk ds ∧
  ∀ p ys, H p = none → TpA H ys (srtD ds) → Q (.ref p) (upd H p (.lst ys))
theorem cr_sortQ (hu : X.A.units + 64 < cLine) : CallR X (.builtin "sorted") (rSortQ X.K) := by
  intro pins s σ H vs us Q I r h
  obtain ⟨a, xs, ds, rfl, hs, t, S, q⟩ := h
  obtain rfl := Vals.ref1 r
  refine sorted_by hu ?_
  rcases hs with hs | hs
  · obtain ⟨its, rv, hl, hz⟩ := I.list hs
    obtain ⟨o, ho, hc, n, hd⟩ := hl.isList
    refine wpAny_collect_seq a (T := "list") (.inl rfl) ho hc hd (fun h' k => ⟨H, xs, ds, I.kept (t' := s.toks) k, rv, t, S, q⟩) ?_
    have := rv.length
    simp
    omega
  · obtain ⟨its, rv, ⟨o, ho, hc, n, hd⟩, hz⟩ := I.tuple hs
    refine wpAny_collect_seq a (T := "tuple") (.inr rfl) ho hc hd (fun h' k => ⟨H, xs, ds, I.kept (t' := s.toks) k, rv, t, S, q⟩) ?_
    have := rv.length
    simp
    omega
/-- sorted(d): the keys -/
def rSortN (P : Program) (w : World) : List V → Hp → VK → Prop := fun vs H Q => ∃ d o xs, vs = [V.ref d] ∧ DNo P w H d o xs ∧ SortOk (xs.map (·.1)) ∧
  ∀ p ys, H p = none → TpA H ys (srtD (xs.map (·.1))) → Q (.ref p) (upd H p (.lst ys))
theorem dn_keys {P : Program} {w : World} {H : Hp} {xs : List (E3 V)} (key : ∀ x ∈ xs, Tp H (.ref x.2.1) x.1 ∧ x.1.depth ≤ 8) : TpA H (xs.map fun x => V.ref x.2.1) (xs.map (·.1)) := by
  induction xs with
  | nil => exact .nil
  | cons x r ih => exact .cons (key x List.mem_cons_self).1 (ih fun y hy => key y (List.mem_cons_of_mem _ hy))
theorem refs_vals : ∀ (as : List Addr), Vals (as.map V.ref) (as.map Value.ref)
  | [] => .nil
  | _ :: as => .cons rfl (refs_vals as)
theorem cr_sortN (hc : X.calm = true) (hu : X.A.units + 64 < cLine) : CallR X (.builtin "sorted") (rSortN X.prog X.w) := by
  intro pins s σ H vs us Q I r h
  obtain ⟨d, o, xs, rfl, D, S, q⟩ := h
  obtain rfl := Vals.ref1 r
  refine sorted_by hu ?_
  obtain ⟨es, ep, ws, hx, hdt, hes, pr⟩ := D.raw
  have raw : s.heap.DictRaw d es ep := ⟨o, dnO_get I.hok D.at_, hx, hdt⟩
  have hl : es.size = xs.length := by rw [← Array.length_toList, hes, List.length_map, Paired.length pr]
  refine PySem.W.kdu_collect (A := X.A.in1) (PySem.KdlSrc.rawDict (es := es) (ep := ep) D.nm) (I.ok.hd hc) raw (by rw [hl]; exact D.sz) fun h' tk acc k hacc => ?_
  refine ⟨H, xs.map (fun x => V.ref x.2.1), xs.map (·.1), I.kept k, ?_, dn_keys (P := X.prog) (w := X.w) D.key, S, q⟩
  have e : acc.toList = (xs.map fun x => x.2.1).map Value.ref := by
    refine List.ext_getElem? fun i => ?_
    rw [Array.getElem?_toList, List.getElem?_map, List.getElem?_map]
    cases hx : xs[i]? with
    | none =>
      have : acc.size ≤ i := by rw [hacc.1, hl]; exact List.getElem?_eq_none_iff.mp hx
      rw [Array.getElem?_eq_none this]
      rfl
    | some x =>
      have hi : i < xs.length := (List.getElem?_eq_some_iff.mp hx).1
      have hi2 : i < acc.size := by rw [hacc.1, hl]; exact hi
      rw [Array.getElem?_eq_getElem hi2]
      obtain ⟨hie, ev⟩ := hacc.2 i acc[i] (Array.getElem?_eq_getElem hi2)
      obtain ⟨_, hk, _⟩ := dn_entry hes pr hx
      rw [ev, hk]
      rfl
  rw [e]
  have e2 : (xs.map fun x => V.ref x.2.1) = (xs.map fun x => x.2.1).map V.ref := by rw [List.map_map]; rfl
  rw [e2]
  exact refs_vals _

/-! ### d.items() as a value, sorted -/
variable {e : Expr} {apos cpos : Pos} {td : TE}
def tItems (P : Program) (w : World) (td : TE) : TE := fun σ H Q => td σ H fun x H1 => ∃ d, x = .ref d ∧ ((∃ o xs, DNo P w H1 d o xs) ∨ ∃ kvs, H1 d = some (.dK kvs)) ∧ ∀ p, H1 p = none → Q (.ref p) (upd H1 p (L2.DX.itemsO p d))
theorem pe_items (he : PE X e td) (hbase : attributeBase e "items" X.env (eval e X.env) = eval e X.env := by rfl) (hline : (apos.endLine == cpos.line) = true := by rfl) :
    PE X (.Call (.Attribute e "items" apos) [] [] cpos) (tItems X.prog X.w td) := by
  refine ⟨fun pins s σ H Q I h => ?_⟩
  refine wpAny_Call_method (T := "dict") (id := "dict.items") hbase rfl hline F.plainAttrs_dict F.slot_dict_items F.type_dict_items (thn (he.run pins s σ H _ I h) fun u s1 z => ?_)
  obtain ⟨x, H1, I1, rx, d, rfl, hd, q⟩ := z
  cases rx
  obtain ⟨es, ep, raw, nm, ty⟩ : ∃ es ep, s1.heap.DictRaw d es ep ∧ (d == sysModules) = false ∧ s1.TypeIs (.ref d) "dict" ∧ ∀ b, Value.ref d = .ref b → ∃ ob, s1.heap.get? b = some ob ∧ ob.dict = none := by
    rcases hd with ⟨o, xs, D⟩ | ⟨kvs, hk⟩
    · obtain ⟨es, ep, ws, hx, hdt, _⟩ := D.raw
      exact ⟨es, ep, ⟨o, dnO_get I1.hok D.at_, hx, hdt⟩, D.nm, dn_type D I1⟩
    · obtain ⟨_, hm, vs, _, dd⟩ := dk_of I1.hok hk
      obtain ⟨es, ep, hr, _⟩ := PySem.Heap.DictOf.raw dd
      refine ⟨es, ep, hr, hm, dd.typeIs, fun b eb => ?_⟩
      cases eb
      obtain ⟨ob, h1, h2, _⟩ := hr
      exact ⟨ob, h1, h2.2.1⟩
  refine ⟨ty.1, ty.2, ?_⟩
  show wpAny _ _ (callWith cpos (.builtin "dict.items") [.ref d] [] []) _ X.xe s1
  refine method_meetsIn F.slot_dict_items F.entry_dict_items rfl (PySem.evalArgs_none ⟨rfl, ty.1, F.args_dict_items_1 _, _, meets_dict_items_raw d nm, ⟨es, ep, raw⟩, ?_⟩)
  exact ⟨.ref s1.heap.objs.size, _, I1.laid (t' := s1.toks) (fun b u q => Heap.get?_push_of_some _ q) (Nat.le_refl _) (L2.DX.itemsO_ok (Heap.get?_push_size _ rfl)), rfl, q _ (I1.hok.fresh (Nat.le_refl _))⟩
/-- a pair's datum -/
def PairD (H : Hp) (p : V × V) (e : Dt) : Prop := ∃ k y, e = .tup [k, y] ∧ Tp H p.1 k ∧ Tp H p.2 y
theorem zip_fst {α β : Type} : ∀ {l : List α} {m : List β}, l.length = m.length → (l.zip m).map (·.1) = l
  | [], [], _ => rfl
  | [], _ :: _, h => by simp at h
  | _ :: _, [], h => by simp at h
  | a :: l, b :: m, h => by
    rw [List.zip_cons_cons, List.map_cons, zip_fst (by simpa using h)]
theorem zip_get {α β : Type} {l : List α} {m : List β} {p : α × β} (h : p ∈ l.zip m) : ∃ i : Nat, l[i]? = some p.1 ∧ m[i]? = some p.2 := by
  obtain ⟨i, hi⟩ := List.mem_iff_getElem?.mp h
  rw [List.getElem?_zip_eq_some] at hi
  exact ⟨i, hi⟩
theorem tpA_of_at {H : Hp} : ∀ {vs : List V} {ds : List Dt}, vs.length = ds.length → (∀ (i : Nat) (v : V) (d : Dt), vs[i]? = some v → ds[i]? = some d → Tp H v d) → TpA H vs ds
  | [], [], _, _ => .nil
  | [], _ :: _, h, _ => by simp at h
  | _ :: _, [], h, _ => by simp at h
  | v :: vs, d :: ds, h, f => .cons (f 0 v d rfl rfl) (tpA_of_at (by simpa using h) fun i a b ha hb => f (i + 1) a b (by simpa using ha) (by simpa using hb))
theorem paired_at {α β : Type} {F : α → β → Prop} : ∀ {l : List α} {m : List β}, Paired F l m → ∀ {i : Nat} {a : α} {b : β}, l[i]? = some a → m[i]? = some b → F a b
  | _, _, .nil, i, a, b, h, _ => by simp at h
  | _, _, .cons f t, 0, a, b, h, k => by
    simp at h k
    rw [← h, ← k]
    exact f
  | _, _, .cons f t, i + 1, a, b, h, k => paired_at t (i := i) (by simpa using h) (by simpa using k)
def rSortI8 (P : Program) (w : World) : List V → Hp → VK → Prop := fun vs H Q => ∃ (p d : Addr) (prs : List (V × V)) (ds : List Dt), vs = [V.ref p] ∧ H p = some (L2.DX.itemsO p d) ∧
  ((∃ o xs, DNo P w H d o xs ∧ prs = xs.map kvOf) ∨ ∃ kvs, H d = some (.dK kvs) ∧ prs = kvs.map fun kv => (kV kv.1, kv.2)) ∧ Paired (PairD H) prs ds ∧ SortOk ds ∧
  ∀ H' q ys, Same H H' → H q = none → H' q = some (.lst ys) → TpA H' ys (srtD ds) → Q (.ref q) H'
theorem cr_sortI8 (hc : X.calm = true) (hu : X.A.units + 64 < cLine) : CallR X (.builtin "sorted") (rSortI8 X.prog X.w) := by
  intro pins s σ H vs us Q I r h
  obtain ⟨p, d, prs, ds, rfl, hp, hd, pd, S, q⟩ := h
  obtain rfl := Vals.ref1 r
  have view : s.heap.IsItemsView p d := (show ObjOk X.prog X.w H s.heap p (L2.DX.itemsO p d) from I.hok p _ hp).1
  obtain ⟨es, ep, raw, hl, hat⟩ : ∃ es ep, s.heap.DictRaw d es ep ∧ es.size = prs.length ∧ ∀ (i : Nat) (pr : V × V), prs[i]? = some pr → ∃ en : DictEntry, es[i]? = some en ∧ RelV pr.1 en.key ∧ RelV pr.2 en.val := by
    rcases hd with ⟨o, xs, D, rfl⟩ | ⟨kvs, hk, rfl⟩
    · obtain ⟨es, ep, ws, hx, hdt, hes, pr⟩ := D.raw
      refine ⟨es, ep, ⟨o, dnO_get I.hok D.at_, hx, hdt⟩, by rw [← Array.length_toList, hes, List.length_map, List.length_map, Paired.length pr], fun i z hz => ?_⟩
      rw [List.getElem?_map] at hz
      cases hx2 : xs[i]? with
      | none => rw [hx2] at hz; cases hz
      | some x =>
        rw [hx2] at hz
        cases hz
        obtain ⟨hi, h1, h2⟩ := dn_entry hes pr hx2
        exact ⟨es[i], Array.getElem?_eq_getElem hi, h1, h2⟩
    · obtain ⟨_, hm, vs, rel, dd⟩ := dk_of I.hok hk
      obtain ⟨es, ep, hr, hsz, hen⟩ := PySem.Heap.DictOf.raw dd
      refine ⟨es, ep, hr, by rw [hsz, List.length_map, rel.length], fun i z hz => ?_⟩
      rw [List.getElem?_map] at hz
      cases hx2 : kvs[i]? with
      | none => rw [hx2] at hz; cases hz
      | some kv =>
        rw [hx2] at hz
        cases hz
        have hi : i < kvs.length := (List.getElem?_eq_some_iff.mp hx2).1
        have hi2 : i < vs.length := by rw [← rel.length]; exact hi
        have hv : vs[i]? = some vs[i] := List.getElem?_eq_getElem hi2
        have rr := paired_at rel hx2 hv
        have hi3 : i < es.size := by rw [hsz]; exact hi2
        obtain ⟨k1, k2⟩ := hen i hi3 vs[i].1 vs[i].2 hv
        refine ⟨es[i], Array.getElem?_eq_getElem hi3, ?_, by rw [k2]; exact rr.2⟩
        rw [← rr.1] at k1
        exact relV_key k1
  have hpl : prs.length = ds.length := Paired.length pd
  refine sorted_by hu ?_
  refine DT.collectI (A := X.A.in1) (es := es) (ep := ep) (I.ok.hd hc) view raw (by rw [hl, hpl]; exact S.sz) fun h' tk as hk hlt hla hG => ?_
  have nd : as.Nodup := List.Pairwise.imp (fun h => Nat.ne_of_lt h) hG.rise
  have lz : as.length = (prs.map fun z => [z.1, z.2]).length := by rw [hla, hl, List.length_map]
  have hmem : ∀ z ∈ as.zip (prs.map fun z => [z.1, z.2]), s.heap.objs.size ≤ z.1 ∧ z.2.length ≤ sizeLine ∧ ∃ its : List Value, Vals z.2 its ∧ IsTup h' z.1 its.toArray := fun z hz => by
    obtain ⟨i, h1, h2⟩ := zip_get hz
    rw [List.getElem?_map] at h2
    cases hx2 : prs[i]? with
    | none => rw [hx2] at h2; cases h2
    | some pr =>
      rw [hx2] at h2
      have ez : [pr.1, pr.2] = z.2 := Option.some.inj h2
      obtain ⟨en, e1, e2, e3⟩ := hat i pr hx2
      obtain ⟨en', e4, e5⟩ := hG.pairs i z.1 h1
      rw [e1] at e4
      cases e4
      rw [← ez]
      exact ⟨Nat.le_of_lt (hG.above _ (List.mem_of_getElem? h1)), Nat.le_of_ble_eq_true rfl, [en.key, en.val], .cons e2 (.cons e3 .nil), ⟨_, e5, rfl, _, rfl⟩⟩
  obtain ⟨I1, sm, tr⟩ := laid_tups (t' := tk) I hk (l := as.zip (prs.map fun z => [z.1, z.2])) (by rw [zip_fst lz]; exact nd) hmem
  refine ⟨_, as.map V.ref, ds, I1, refs_vals as, tpA_of_at (by rw [List.length_map]; omega) fun i v d' hv hd' => ?_, S, fun p' ys hp' ty => q _ p' ys (fun b o e => by rw [upd_ne (ne_of_none (sm _ _ e) hp')]; exact sm _ _ e) (sm.free hp') upd_same (ty.up (same_new hp'))⟩
  rw [List.getElem?_map] at hv
  cases ha : as[i]? with
  | none => rw [ha] at hv; cases hv
  | some a =>
    rw [ha] at hv
    cases hv
    have hi : i < prs.length := by have := (List.getElem?_eq_some_iff.mp hd').1; omega
    have hpr : prs[i]? = some prs[i] := List.getElem?_eq_getElem hi
    obtain ⟨k, y, rfl, t1, t2⟩ := paired_at pd hpr hd'
    have hz : (a, [prs[i].1, prs[i].2]) ∈ as.zip (prs.map fun z => [z.1, z.2]) := List.mem_of_getElem? (i := i) (by
      rw [List.getElem?_zip_eq_some]
      exact ⟨ha, by rw [List.getElem?_map, hpr]; rfl⟩)
    exact .tup (.inl (tr _ hz)) (.cons (t1.up sm) (.cons (t2.up sm) .nil))
end
end K8
end

section
set_option Elab.async false
set_option linter.all false
set_option maxRecDepth 100000
set_option maxHeartbeats 4000000
/-! K81: more judgements. -/
namespace K8
open PySem PySem.Spec PyProof.Rows L2
mutual
theorem data_eqv : ∀ a b : Dt, PyData.eqv a.data b.data = NestedKey.beq a b
  | .none, .none => rfl
  | .none, .num j => rfl
  | .none, .text y => rfl
  | .none, .tup ys => rfl
  | .num i, .none => rfl
  | .num i, .num j => rfl
  | .num i, .text y => rfl
  | .num i, .tup ys => rfl
  | .text x, .none => rfl
  | .text x, .num j => rfl
  | .text x, .text y => rfl
  | .text x, .tup ys => rfl
  | .tup xs, .none => rfl
  | .tup xs, .num j => rfl
  | .tup xs, .text y => rfl
  | .tup xs, .tup ys => datas_eqv xs ys
theorem datas_eqv : ∀ a b : List Dt, PyData.eqvAll (NestedKey.datas a) (NestedKey.datas b) = NestedKey.beqAll a b
  | [], [] => rfl
  | [], b :: bs => rfl
  | a :: as, [] => rfl
  | a :: as, b :: bs => by
    show (PyData.eqv a.data b.data && PyData.eqvAll (NestedKey.datas as) (NestedKey.datas bs)) = (NestedKey.beq a b && NestedKey.beqAll as bs)
    rw [data_eqv, datas_eqv]
end
mutual
theorem tp_dp {K : PySem.W.Frag} {H : Hp} : ∀ (d : Dt) (v : V), Tp H v d → Dp K H v d.data
  | .num i, _, h => by cases h; exact .int i
  | .text x, _, h => by cases h; exact .str x
  | .tup ds, _, h => by
    obtain ⟨a, xs, rfl, hr, ht⟩ := h.tup_inv
    exact .tup (.inl hr) (tpA_dp ds xs ht)
theorem tpA_dp {K : PySem.W.Frag} {H : Hp} : ∀ (ds : List Dt) (vs : List V), TpA H vs ds → DpAll K H vs (NestedKey.datas ds)
  | [], _, h => by cases h; exact .nil
  | d :: ds, _, h => by
    obtain ⟨v, ws, rfl, h1, h2⟩ := TpA.cons_inv h
    exact .cons (tp_dp d v h1) (tpA_dp ds ws h2)
end
/-- every text in it is of real signs -/
def TxOk (d : Dt) : Prop := d.data.canLay0 = true
theorem tx_tup {ds : List Dt} (h : ∀ d ∈ ds, TxOk d) : TxOk (.tup ds) := by
  show PyData.canLayAll0 (NestedKey.datas ds) = true
  induction ds with
  | nil => rfl
  | cons d ds ih =>
    show (PyData.canLay0 d.data && PyData.canLayAll0 (NestedKey.datas ds)) = true
    rw [Bool.and_eq_true]
    exact ⟨h d (by simp), ih fun e he => h e (by simp [he])⟩
theorem tx_list {ds : List Dt} (h : ∀ d ∈ ds, TxOk d) : PyData.canLay0 (.list (NestedKey.datas ds)) = true := tx_tup h
theorem tx_num {i : Int} : TxOk (.num i) := rfl
theorem tx_text {x : Str} (h : PyData.strOk x = true) : TxOk (.text x) := h
theorem depth_tup_le {ds : List Dt} {n : Nat} (h : ∀ d ∈ ds, d.depth ≤ n) : NestedKey.depthAll ds ≤ n := by
  induction ds with
  | nil => exact Nat.zero_le _
  | cons d ds ih => exact Nat.max_le.mpr ⟨h d (by simp), ih fun e he => h e (by simp [he])⟩
theorem shaped_tx {d : Dt} (h : TxOk d) (hd : d.depth ≤ 60) : SeqAt.shaped d.data = true := by
  unfold SeqAt.shaped
  rw [Bool.and_eq_true, decide_eq_true_eq, data_depth]
  exact ⟨h, by omega⟩
theorem shaped_list {ds : List Dt} (h : ∀ d ∈ ds, TxOk d) (hd : ∀ d ∈ ds, d.depth ≤ 50) : SeqAt.shaped (.list (NestedKey.datas ds)) = true := by
  unfold SeqAt.shaped
  rw [Bool.and_eq_true, decide_eq_true_eq]
  refine ⟨tx_list h, ?_⟩
  have e : PyData.depth (.list (NestedKey.datas ds)) = NestedKey.depthAll ds + 1 := by
    show PyData.depthAll _ + 1 = _
    rw [datas_depth]
  have := depth_tup_le hd
  omega
section
variable {G : Hp → Prop} {te ta tb : TE} {σ : L2.St} {K : PySem.W.Frag}
/-- data compared -/
theorem rb_eqQ {d e : Dt} (h1 : TxOk d) (h2 : TxOk e) (d1 : d.depth ≤ 60) (d2 : e.depth ≤ 60) : RvB G (rEqD K) d e (decide (d = e)) := fun v w H1 g tv tw Q q => by
  refine ⟨d.data, e.data, tp_dp d v tv, tp_dp e w tw, shaped_tx h1 d1, shaped_tx h2 d2, ?_⟩
  rw [data_eqv, ← NestedKey.decide_eq]
  exact q H1 (Same.refl _)
theorem rb_neQ {d e : Dt} (h1 : TxOk d) (h2 : TxOk e) (d1 : d.depth ≤ 60) (d2 : e.depth ≤ 60) : RvB G (rNeD K) d e (!decide (d = e)) := fun v w H1 g tv tw Q q => by
  refine ⟨d.data, e.data, tp_dp d v tv, tp_dp e w tw, shaped_tx h1 d1, shaped_tx h2 d2, ?_⟩
  rw [data_eqv, ← NestedKey.decide_eq]
  exact q H1 (Same.refl _)
/-- a list that stands is not [] -/
theorem nil_eqv (ds : List Dt) : PyData.eqv (.list (NestedKey.datas ds)) (.list []) = ds.isEmpty := by
  cases ds <;> rfl
theorem eb_neNil [Stb G] {ds : List Dt} (h1 : ∀ d ∈ ds, TxOk d) (h2 : ∀ d ∈ ds, d.depth ≤ 50) (h : EvR G te σ fun v H => ∃ a vs, v = .ref a ∧ H a = some (.lst vs) ∧ TpA H vs ds) : EvB G (tOp (rNeD K) te (tLst tNil)) σ (!ds.isEmpty) := fun H1 g Q q =>
  h H1 g _ fun v H2 s2 ⟨a, vs, e, e1, t⟩ => by
    subst e
    refine ⟨Nat.zero_le _, fun l hl => ?_⟩
    have sl := same_new (o := .lst []) hl
    refine ⟨.list (NestedKey.datas ds), .list [], .lst (.inl (.inl (sl _ _ e1))) (tpA_dp ds vs (t.up sl)), .lst (.inl (.inl (by simp [upd]))) .nil, shaped_list h1 h2, rfl, ?_⟩
    rw [nil_eqv]
    exact q _ _ (s2.trans sl) rfl
/-! ### calls of built-ins on new lists -/
theorem er_cbL {r : List V → Hp → VK → Prop} {ds : List Dt} {R : V → Hp → Prop} (h : EvL G te σ ds) (hr : ∀ p vs H1, H1 p = some (.lst vs) → TpA H1 vs ds → ∀ Q : VK, (∀ v H2, Same H1 H2 → R v H2 → Q v H2) → r [.ref p] H1 Q) : EvR G (tCB r (tCons te tNil)) σ R := fun H1 g Q q =>
  h H1 g _ fun p vs H2 hn s e t => hr p vs H2 e t Q fun v H3 s3 r3 => q v H3 (s.trans s3) r3
theorem er_cbV {r : List V → Hp → VK → Prop} {us : List V} {R : V → Hp → Prop} (h : EvV G te σ us) (hr : ∀ p H1, H1 p = some (.lst us) → ∀ Q : VK, (∀ v H2, Same H1 H2 → R v H2 → Q v H2) → r [.ref p] H1 Q) : EvR G (tCB r (tCons te tNil)) σ R := fun H1 g Q q =>
  h H1 g _ fun p H2 hn s e => hr p H2 e Q fun v H3 s3 r3 => q v H3 (s.trans s3) r3
theorem el_cbL {r : List V → Hp → VK → Prop} {ds es : List Dt} (h : EvL G te σ ds) (hr : ∀ p vs H1, H1 p = some (.lst vs) → TpA H1 vs ds → ∀ Q : VK, (∀ q ws H2, H1 q = none → Same H1 H2 → H2 q = some (.lst ws) → TpA H2 ws es → Q (.ref q) H2) → r [.ref p] H1 Q) : EvL G (tCB r (tCons te tNil)) σ es := fun H1 g Q q =>
  h H1 g _ fun p vs H2 hn s e t => hr p vs H2 e t Q fun p2 ws H3 hn3 s3 e3 t3 => q p2 ws H3 (s.free hn3) (s.trans s3) e3 t3
abbrev rTupOf (K : PySem.W.Frag) : List V → Hp → VK → Prop := fun xs H Q => ∃ p ys, xs = [.ref p] ∧ ((SqL K H p ys ∧ ∀ l, H l = none → Q (.ref l) (upd H l (.tup ys))) ∨ (SqT K H p ys ∧ Q (.ref p) H))
/-- tuple([..]) -/
theorem ed_tupL {ds : List Dt} (h : EvL G te σ ds) : EvD G (tCB (rTupOf K) (tCons te tNil)) σ (.tup ds) :=
  er_cbL h fun p vs H1 e t Q q => ⟨p, vs, rfl, .inl ⟨.inl (.inl e), fun l hl => q _ _ (same_new hl) (tp_new hl t)⟩⟩
abbrev rTupF (K : PySem.W.Frag) : List V → Hp → VK → Prop := fun xs H Q => ∃ p ys, xs = [.ref p] ∧ SqL K H p ys ∧ ∀ l o, H l = none → o.dict = none → Q (.ref l) (upd H l (.frz o (.tup ys)))
theorem er_word {ks : List Str} (h : EvL G te σ (ks.map NestedKey.text)) : EvR G (tCB (rTupF K) (tCons te tNil)) σ fun v H => Wd H v ks :=
  er_cbL h fun p vs H1 e t Q q => ⟨p, vs, rfl, .inl (.inl e), fun l o hl hd => q _ _ (same_new hl) ⟨l, rfl, by rw [← TpA.texts t]; exact wt_new hd⟩⟩
theorem ed_sumL {ns : List Int} (h : EvL G te σ (ns.map NestedKey.num)) : EvD G (tCB (rSum K) (tCons te tNil)) σ (.num ns.sum) :=
  er_cbL h fun p vs H1 e t Q q => ⟨p, ns, rfl, .inl (.inl (by rw [← TpA.nums t]; exact e)), q _ _ (Same.refl _) (.num _)⟩
theorem eb_anyV {bs : List Bool} (h : EvV G te σ (bs.map V.bl)) : EvB G (tCB (rAny K) (tCons te tNil)) σ (bs.any id) :=
  er_cbV h fun p H1 e Q q => ⟨p, bs, rfl, .inl (.inl e), q _ _ (Same.refl _) rfl⟩
theorem eb_allV {bs : List Bool} (h : EvV G te σ (bs.map V.bl)) : EvB G (tCB (rAll K) (tCons te tNil)) σ (bs.all id) :=
  er_cbV h fun p H1 e Q q => ⟨p, bs, rfl, .inl (.inl e), q _ _ (Same.refl _) rfl⟩
theorem el_sortL {ds : List Dt} (h : EvL G te σ ds) (S : SortOk ds) : EvL G (tCB (rSortQ K) (tCons te tNil)) σ (srtD ds) :=
  el_cbL h fun p vs H1 e t Q q => ⟨p, vs, ds, rfl, .inl (.inl (.inl e)), t, S, fun q' ys hn t' => q q' ys _ hn (same_new hn) (by simp [upd]) (t'.up (same_new hn))⟩
theorem el_sortT {ds : List Dt} (h : EvD G te σ (.tup ds)) (S : SortOk ds) : EvL G (tCB (rSortQ K) (tCons te tNil)) σ (srtD ds) := fun H1 g Q q =>
  h H1 g _ fun v H2 s t => by
    obtain ⟨a, xs, rfl, hr, ht⟩ := t.tup_inv
    exact ⟨a, xs, ds, rfl, .inr (.inl hr), ht, S, fun q' ys hn t' => q q' ys _ (s.free hn) (s.trans (same_new hn)) (by simp [upd]) (t'.up (same_new hn))⟩
/-- a list as it stands -/
def EvS (G : Hp → Prop) (te : TE) (σ : L2.St) (ds : List Dt) : Prop := EvR G te σ fun v H => ∃ a vs, v = .ref a ∧ H a = some (.lst vs) ∧ TpA H vs ds
theorem es_of {ds : List Dt} (h : EvL G te σ ds) : EvS G te σ ds := fun H1 g Q q => h H1 g _ fun p vs H2 hn s e t => q _ H2 s ⟨p, vs, rfl, e, t⟩
theorem es_var {ds : List Dt} {i : Nat} {a : Addr} (h : σ[i]? = some (some (.ref a))) (ht : ∀ H, G H → ∃ vs, H a = some (.lst vs) ∧ TpA H vs ds) : EvS G (tVar i) σ ds := er_var h fun H g => let ⟨vs, e, t⟩ := ht H g; ⟨a, vs, rfl, e, t⟩
theorem el_cat [Stb G] {ds es : List Dt} (h1 : EvS G ta σ ds) (h2 : EvS G tb σ es) (hl : ds.length + es.length ≤ 100000) : EvL G (tOp rCat ta tb) σ (ds ++ es) := fun H1 g Q q =>
  h1 H1 g _ fun v H2 s2 ⟨a, vs, e, e1, t⟩ => h2 H2 (Stb.up g s2) _ fun w H3 s3 ⟨b, ws, e', e1', t'⟩ => by
    subst e e'
    refine ⟨a, b, vs, ws, rfl, rfl, s3 _ _ e1, e1', ?_, fun p hp => ?_⟩
    · rw [t.length, t'.length]; have := sizeLine_eq; omega
    · have sn := same_new (o := .lst (vs ++ ws)) hp
      exact q p _ _ ((s2.trans s3).free hp) ((s2.trans s3).trans sn) (by simp [upd]) (((t.up s3).app t').up sn)
theorem ed_ixL [Stb G] {ds : List Dt} {i : Int} {d : Dt} (ha : EvS G ta σ ds) (hb : EvD G tb σ (.num i)) (e : atI ds i = some d) : EvD G (tOp (rIxL K) ta tb) σ d := fun H1 g Q q =>
  ha H1 g _ fun v H2 s2 ⟨a, vs, e0, e1, t⟩ => hb H2 (Stb.up g s2) _ fun w H3 s3 t3 => by
    subst e0
    cases t3
    obtain ⟨u, hu, tu⟩ := (t.up s3).atI e
    exact ⟨a, vs, i, u, rfl, rfl, .inl (.inl (s3 _ _ e1)), hu, q u H3 (s2.trans s3) tu⟩
theorem ed_lenL {ds : List Dt} (h : EvS G te σ ds) : EvD G (tCB (rLenX K) (tCons te tNil)) σ (.num (ds.length : Int)) := fun H1 g Q q =>
  h H1 g _ fun v H2 s ⟨a, vs, e, e1, t⟩ => by
    subst e
    refine ⟨a, vs, rfl, .inl (.inl (.inl e1)), ?_⟩
    exact q _ H2 s (by rw [t.length]; exact .num _)
end
end K8
end

section
set_option Elab.async false
set_option linter.all false
set_option maxRecDepth 100000
set_option maxHeartbeats 4000000
/-! K81: what each def's proof stands on. -/
namespace K8
open PySem PySem.Spec PyProof.Rows L2
structure Bi (mg : Str → Option Value) : Prop where
  len : mg "len" = none
  tuple : mg "tuple" = none
  sorted : mg "sorted" = none
  sum : mg "sum" = none
  zip : mg "zip" = none
  min : mg "min" = none
  range : mg "range" = none
  abs : mg "abs" = none
  int : mg "int" = none
  isinstance : mg "isinstance" = none
  list : mg "list" = none
  bool : mg "bool" = none
  str : mg "str" = none
  all : mg "all" = none
  any : mg "any" = none
  enumerate : mg "enumerate" = none
/-- the def x, the i-th statement, as it stands -/
structure Df (K : PySem.W.Frag) (mg : Str → Option Value) (x : Str) (i : Nat) (f : Addr) (fd : FuncData) : Prop where
  F : FunD K x x (defArgs (K81.top i)) (defBody (K81.top i)) (defScope (K81.top i)) [] [] f fd
  g : mg x = some (.ref f)
/-- what a caller needs of it -/
structure Cal (P : Program) (w : World) (K : PySem.W.Frag) (mg : Str → Option Value) (base : Heap) (x : Str) (k : Nat) (ps : List Str) (sp : Sp) : Prop where
  ex : ∃ f fd, FnOk P w K mg base CX0 k f fd ps sp ∧ mg x = some (.ref f) ∧ PySem.W.keepIn K (.ref f) = true ∧ Binds K fd ps []
abbrev DfE (K : PySem.W.Frag) (mg : Str → Option Value) (x : Str) (i : Nat) : Prop := ∃ f fd, Df K mg x i f fd
theorem Df.cal {P : Program} {w : World} {K : PySem.W.Frag} {mg : Str → Option Value} {base : Heap} {x : Str} {i : Nat} {f : Addr} {fd : FuncData} {k : Nat} {ps : List Str} {sp : Sp} (D : Df K mg x i f fd) (ok : FnOk P w K mg base CX0 k f fd ps sp)
    (h : ∀ (kV doc pm : Value) (an : Option Addr) (cdv ct : Value) (us : List Value), us.length = ps.length → bindArgs (PySem.W.fnOf x x (defArgs (K81.top i)) (defBody (K81.top i)) (defScope (K81.top i)) .none kV doc pm an cdv ct) ⟨us, []⟩ = pure (ps.zip us)) :
    Cal P w K mg base x k ps sp := ⟨f, fd, ok, D.g, D.F.kp, D.F.bindsN h⟩
theorem pe_callC {X : Cx} {k : Nat} {ps : List Str} {sp : Sp} {x : Str} {e : Expr} {es : List Expr} {t : TA} {p pos : Pos} (C : Cal X.prog X.w X.K X.mg X.base x k ps sp) (hr : Room k X.A) (ha : PA X (e :: es) t) (hg : Gl X x := by rfl)
    (hdb : (x == ("__debug__" : Str)) = false := by decide) (he : starEach (e :: es) X.env = (false, eval e X.env) :: starEach es X.env := by rfl) (hpl : (backTo pos (starEach es X.env)).any (·.1) = false := by rfl) :
    PE X (.Call (.Name x p) (e :: es) [] pos) (tCall sp [] E0 t) := by
  obtain ⟨f, fd, F, hm, hk, hb⟩ := C.ex
  exact pe_call F hr hg hm hk hb .nil pass0 ha hdb he hpl
end K8
end

section
set_option Elab.async false
set_option linter.all false
set_option maxRecDepth 100000
set_option maxHeartbeats 4000000
/-! K81: for over data. -/
namespace K8
open PySem PySem.Spec PyProof.Rows L2
/-- for over what stands while the tuples stand; Pv: by the heap at the start, the turn, the slots, the heap -/
theorem q_forJ {α : Type} {G : Hp → Prop} {wi : TI} {g : TG} {tb : TS} {D : L2.Ends} {σ : L2.St} {H : Hp} {xs : List α} {mk : α → Dt} (hi : EvJ G wi σ (xs.map mk)) (g0 : G H) (Pv : Hp → Nat → L2.St → Hp → Prop)
    (h0 : ∀ H2, Same H H2 → Pv H2 0 σ H2) (hT : ∀ H2, Same H H2 → ∀ i τ H', Pv H2 i τ H' → Ts H2 H')
    (hs : ∀ H2, Same H H2 → ∀ i a τ H' H'' x, xs[i]? = some a → a ∈ xs → Pv H2 i τ H' → Same H' H'' → Tp H'' x (mk a) → EvG g τ x H'' fun τ2 H3 => tb { D with nx := Pv H2 (i + 1), ct := Pv H2 (i + 1), bk := D.nx } τ2 H3)
    (hd : ∀ H2, Same H H2 → ∀ τ H', Pv H2 xs.length τ H' → D.nx τ H') : tFor wi g tb D σ H := hi H g0 _ fun J H2 s2 w => by
  refine ⟨fun i m τ H' => m = xs.length - i ∧ i ≤ xs.length ∧ Pv H2 i τ H', ⟨xs.length, rfl, Nat.zero_le _, h0 H2 s2⟩, ?_⟩
  rintro i m τ H' ⟨rfl, hle, p⟩
  have t := hT H2 s2 i τ H' p
  by_cases hlt : i < xs.length
  · obtain ⟨hgo, hy⟩ := (w H' t).1 i (by rw [List.length_map]; exact hlt)
    refine .inr ⟨hgo, Pv H2 (i + 1), fun τ' H'' p' => ⟨xs.length - (i + 1), by omega, rfl, hlt, p'⟩, fun x H'' y => ?_⟩
    obtain ⟨s3, d, hd', td⟩ := hy x H'' y
    obtain ⟨a, ha, hm, rfl⟩ := at_map hd'
    exact hs H2 s2 i a τ H' H'' x ha hm p s3 td _ fun τ2 H3 q => q
  · have e : i = xs.length := by omega
    subst e
    have z := (w H' t).2
    rw [List.length_map] at z
    exact .inl ⟨z, hd H2 s2 τ H' p⟩
/-- the same, nothing that stood changed -/
theorem q_forI {α : Type} {G : Hp → Prop} {wi : TI} {g : TG} {tb : TS} {D : L2.Ends} {σ : L2.St} {H : Hp} {xs : List α} {mk : α → Dt} (hi : EvI G wi σ (xs.map mk)) (g0 : G H) (Pv : Hp → Nat → L2.St → Hp → Prop)
    (h0 : ∀ H2, Same H H2 → Pv H2 0 σ H2) (hT : ∀ H2, Same H H2 → ∀ i τ H', Pv H2 i τ H' → Same H2 H')
    (hs : ∀ H2, Same H H2 → ∀ i a τ H' H'' x, xs[i]? = some a → a ∈ xs → Pv H2 i τ H' → Same H' H'' → Tp H'' x (mk a) → EvG g τ x H'' fun τ2 H3 => tb { D with nx := Pv H2 (i + 1), ct := Pv H2 (i + 1), bk := D.nx } τ2 H3)
    (hd : ∀ H2, Same H H2 → ∀ τ H', Pv H2 xs.length τ H' → D.nx τ H') : tFor wi g tb D σ H := hi H g0 _ fun J H2 s2 w => by
  refine ⟨fun i m τ H' => m = xs.length - i ∧ i ≤ xs.length ∧ Pv H2 i τ H', ⟨xs.length, rfl, Nat.zero_le _, h0 H2 s2⟩, ?_⟩
  rintro i m τ H' ⟨rfl, hle, p⟩
  have t := hT H2 s2 i τ H' p
  by_cases hlt : i < xs.length
  · obtain ⟨hgo, hy⟩ := (w H' t).1 i (by rw [List.length_map]; exact hlt)
    refine .inr ⟨hgo, Pv H2 (i + 1), fun τ' H'' p' => ⟨xs.length - (i + 1), by omega, rfl, hlt, p'⟩, fun x H'' y => ?_⟩
    obtain ⟨s3, d, hd', td⟩ := hy x H'' y
    obtain ⟨a, ha, hm, rfl⟩ := at_map hd'
    exact hs H2 s2 i a τ H' H'' x ha hm p s3 td _ fun τ2 H3 q => q
  · have e : i = xs.length := by omega
    subst e
    have z := (w H' t).2
    rw [List.length_map] at z
    exact .inl ⟨z, hd H2 s2 τ H' p⟩
theorem EvT.mono' {G G' : Hp → Prop} {tt : TT} {σ : L2.St} {b : Bool} (h : EvT G tt σ b) (g : ∀ H, G' H → G H) : EvT G' tt σ b := fun H1 h1 => h H1 (g H1 h1)
/-- for over a list that stands at a -/
theorem q_forL {α : Type} {G : Hp → Prop} {te : TE} {g : TG} {tb : TS} {D : L2.Ends} {σ : L2.St} {H : Hp} {K : PySem.W.Frag} {a : Addr} {us : List V} {xs : List α} {mk : α → Dt} (he : EvR G te σ fun v _ => v = .ref a) (g0 : G H) (e : H a = some (.lst us)) (t : TpA H us (xs.map mk)) (Pv : Nat → L2.St → Hp → Prop)
    (h0 : ∀ H2, Same H H2 → Pv 0 σ H2) (hT : ∀ i τ H', Pv i τ H' → H' a = some (.lst us) ∧ Ts H H')
    (hs : ∀ i b τ H' x, xs[i]? = some b → b ∈ xs → Pv i τ H' → Tp H' x (mk b) → EvG g τ x H' fun τ2 H3 => tb { D with nx := Pv (i + 1), ct := Pv (i + 1), bk := D.nx } τ2 H3)
    (hd : ∀ τ H', Pv xs.length τ H' → D.nx τ H') : tFor (iList K te) g tb D σ H := he H g0 _ fun v H2 s2 ev => by
  refine ⟨a, ev, ⟨us, .inl (.inl (s2 _ _ e))⟩, fun i m τ H' => m = xs.length - i ∧ i ≤ xs.length ∧ Pv i τ H', ⟨xs.length, rfl, Nat.zero_le _, h0 H2 s2⟩, ?_⟩
  rintro i m τ H' ⟨rfl, hle, p⟩
  obtain ⟨e', ts⟩ := hT i τ H' p
  have t' := t.mono ts
  have q : SqL K H' a us := .inl (.inl e')
  have hlen : us.length = xs.length := by rw [t.length, List.length_map]
  by_cases hlt : i < xs.length
  · have hx : us[i]? = some (us[i]'(by omega)) := List.getElem?_eq_getElem _
    refine .inr ⟨⟨us, _, q, hx⟩, Pv (i + 1), fun τ' H'' p' => ⟨xs.length - (i + 1), by omega, rfl, hlt, p'⟩, fun x H'' y => ?_⟩
    obtain ⟨rfl, hy⟩ := y
    obtain ⟨d, hd', td⟩ := t'.getV (hy us q)
    obtain ⟨b, hb, hm, rfl⟩ := at_map hd'
    exact hs i b τ H'' x hb hm p td _ fun τ2 H3 q => q
  · have e2 : i = xs.length := by omega
    subst e2
    exact .inl ⟨⟨us, q, Nat.le_of_eq hlen⟩, hd τ H' p⟩
/-- xs.append(e) as a statement -/
theorem q_append {K : PySem.W.Frag} {G : Hp → Prop} {te : TE} {i : Nat} {σ : L2.St} {H : Hp} {D : L2.Ends} {l : Addr} {us : List V} {d : Dt} (hl : σ[i]? = some (some (.ref l))) (h : EvD G te σ d) (g0 : G H) (e : H l = some (.lst us)) (hz : us.length < 100000)
    (k : ∀ v H1, Same H H1 → Tp H1 v d → D.nx σ (upd H1 l (.lst (us ++ [v])))) : tDrop (tBM K "list" rAppend (tVar i) (tCons te tNil)) D σ H := by
  refine ⟨.ref l, hl, .inl ⟨rfl, us, .inl (.inl e)⟩, h H g0 _ fun v H1 s t => ?_⟩
  exact ⟨l, us, v, rfl, rfl, s _ _ e, by have := sizeLine_eq; omega, k v H1 s t⟩
/-- a name stored, the rest of the block ahead -/
theorem q_gn {D : L2.Ends} {u : TS} {τ : L2.St} {H : Hp} {i : Nat} {v : V} (h : u D (τ.set i (some v)) H) : gName i v τ H ({ D with nx := u D } : L2.Ends).nx := h
theorem q_nx {D : L2.Ends} {u : TS} {τ : L2.St} {H : Hp} (h : u D τ H) : ({ D with nx := u D } : L2.Ends).nx τ H := h
end K8
end

section
/-! Common parts of two words, by the program's search and by the law's: plain lists, no program in sight. -/
set_option autoImplicit false
set_option linter.all false
namespace KM
variable {α : Type} [DecidableEq α]

/-- the place behind the first k from at on -/
def nxt (w : List α) (a : Nat) (k : α) : Nat := a + (w.drop a).idxOf k + 1

theorem idxOf_split {k : α} : ∀ {l : List α}, k ∈ l → l = l.take (l.idxOf k) ++ k :: l.drop (l.idxOf k + 1)
  | [], h => absurd h (by simp)
  | x :: l, h => by
    by_cases e : x = k
    · subst e; simp [List.idxOf_cons]
    · have hm : k ∈ l := by
        rcases List.mem_cons.mp h with z | z
        · exact absurd z.symm e
        · exact z
      have q := idxOf_split hm
      have ei : (x :: l).idxOf k = l.idxOf k + 1 := by
        rw [List.idxOf_cons]
        have : (x == k) = false := beq_eq_false_iff_ne.mpr e
        rw [this]; rfl
      rw [ei]
      show x :: l = x :: (l.take (l.idxOf k) ++ k :: l.drop (l.idxOf k + 1))
      rw [← q]

/-- behind its first letter's first place the rest of a part is a part -/
theorem sub_behind {k : α} {r : List α} : ∀ {l : List α}, (k :: r).Sublist l → k ∈ l ∧ r.Sublist (l.drop (l.idxOf k + 1))
  | [], h => by cases h
  | x :: l, h => by
    by_cases e : x = k
    · subst e
      refine ⟨List.mem_cons_self, ?_⟩
      have : (x :: l).idxOf x = 0 := by simp [List.idxOf_cons]
      rw [this]
      exact List.Sublist.of_cons_cons h
    · have hl : (k :: r).Sublist l := by
        cases h with
        | cons _ h => exact h
        | cons_cons _ h => exact absurd rfl e
      obtain ⟨h1, h2⟩ := sub_behind hl
      refine ⟨List.mem_cons_of_mem _ h1, ?_⟩
      have ei : (x :: l).idxOf k = l.idxOf k + 1 := by
        rw [List.idxOf_cons]
        have : (x == k) = false := beq_eq_false_iff_ne.mpr e
        rw [this]; rfl
      rw [ei]
      exact h2

/-- one letter more, behind its first place -/
theorem sub_ahead {k : α} {r l : List α} (hk : k ∈ l) (h : r.Sublist (l.drop (l.idxOf k + 1))) : (k :: r).Sublist l := by
  have q := idxOf_split hk
  have z : (k :: r).Sublist (k :: l.drop (l.idxOf k + 1)) := List.Sublist.cons_cons k h
  have z2 : (k :: l.drop (l.idxOf k + 1)).Sublist l := by
    have := List.sublist_append_right (l.take (l.idxOf k)) (k :: l.drop (l.idxOf k + 1))
    rw [← q] at this
    exact this
  exact z.trans z2

theorem sub_on {k : α} {r w : List α} {a : Nat} (h : r.Sublist (w.take a)) (hk : k ∈ w.drop a) : (r ++ [k]).Sublist (w.take (nxt w a k)) := by
  have q := idxOf_split hk
  have e : w = w.take a ++ ((w.drop a).take ((w.drop a).idxOf k) ++ k :: (w.drop a).drop ((w.drop a).idxOf k + 1)) := by
    rw [← q, List.take_append_drop]
  have e2 : (w.take a ++ ((w.drop a).take ((w.drop a).idxOf k) ++ [k])).Sublist (w.take (nxt w a k)) := by
    have hlt : (w.drop a).idxOf k < (w.drop a).length := List.idxOf_lt_length_of_mem hk
    have hl : (w.drop a).length = w.length - a := List.length_drop
    have ha : a ≤ w.length := by omega
    have l1 : (w.take a).length = a := by rw [List.length_take]; omega
    have l2 : ((w.drop a).take ((w.drop a).idxOf k)).length = (w.drop a).idxOf k := by rw [List.length_take]; omega
    have : w.take (nxt w a k) = w.take a ++ ((w.drop a).take ((w.drop a).idxOf k) ++ [k]) := by
      have e3 : w = (w.take a ++ ((w.drop a).take ((w.drop a).idxOf k) ++ [k])) ++ (w.drop a).drop ((w.drop a).idxOf k + 1) := by
        simpa using e
      have l3 : (w.take a ++ ((w.drop a).take ((w.drop a).idxOf k) ++ [k])).length = nxt w a k := by
        rw [List.length_append, List.length_append, l1, l2]
        unfold nxt
        simp
        omega
      have := congrArg (List.take (nxt w a k)) e3
      rw [← l3, List.take_left'] at this
      · rw [← l3]; exact this
      · rfl
    rw [this]
    exact List.Sublist.refl _
  refine List.Sublist.trans ?_ e2
  refine List.Sublist.append h ?_
  exact List.sublist_append_right _ _

theorem nxt_le {k : α} {w : List α} {a : Nat} (hk : k ∈ w.drop a) : nxt w a k ≤ w.length := by
  have hlt : (w.drop a).idxOf k < (w.drop a).length := List.idxOf_lt_length_of_mem hk
  have hl : (w.drop a).length = w.length - a := List.length_drop
  unfold nxt
  omega

theorem drop_nxt (w : List α) (a : Nat) (k : α) : (w.drop a).drop ((w.drop a).idxOf k + 1) = w.drop (nxt w a k) := by
  rw [List.drop_drop]
  congr 1

/-- a canonical order -/
structure Srt (s : List α → List α) : Prop where
  perm : ∀ l, (s l).Perm l
  can : ∀ l m, l.Perm m → s l = s m

theorem Srt.idem {s : List α → List α} (S : Srt s) (l : List α) : s (s l) = s l := S.can _ _ (S.perm l)
theorem Srt.mem {s : List α → List α} (S : Srt s) {l : List α} {k : α} : k ∈ s l ↔ k ∈ l := (S.perm l).mem_iff
theorem Srt.app {s : List α → List α} (S : Srt s) (l m : List α) : s (s l ++ m) = s (l ++ m) := S.can _ _ ((S.perm l).append_right m)
theorem Srt.app2 {s : List α → List α} (S : Srt s) (l m : List α) : s (s l ++ s m) = s (l ++ m) := S.can _ _ ((S.perm l).append (S.perm m))
theorem Srt.nil {s : List α → List α} (S : Srt s) : s [] = [] := (S.perm []).eq_nil
theorem Srt.eq_iff {s : List α → List α} (S : Srt s) {l m : List α} : s l = s m ↔ l.Perm m :=
  ⟨fun e => (S.perm l).symm.trans (e ▸ S.perm m), S.can l m⟩

/-- r is a part of both words -/
def Cs (w : List α × List α) (r : List α) : Prop := r.Sublist w.1 ∧ r.Sublist w.2

/-! ### the program's search on one shelf -/
/-- a key: the places in both words, the kinds done -/
abbrev Key (α : Type) := (Nat × Nat) × List α
/-- one kind more -/
def stepK (s : List α → List α) (w : List α × List α) (q : Key α) (k : α) : Key α := ((nxt w.1 q.1.1 k, nxt w.2 q.1.2 k), s (q.2 ++ [k]))
/-- may it be done here -/
def MayK (w : List α × List α) (q : Key α) (k : α) : Prop := k ∉ q.2 ∧ k ∈ w.1.drop q.1.1 ∧ k ∈ w.2.drop q.1.2
instance (w : List α × List α) (q : Key α) (k : α) : Decidable (MayK w q k) := by unfold MayK; infer_instance

/-- what is known of an entry: the key and its row -/
structure Ent (s : List α → List α) (w : List α × List α) (heavy done : List α) (q : Key α) (row : List α) : Prop where
  one : row.Sublist (w.1.take q.1.1)
  two : row.Sublist (w.2.take q.1.2)
  key : q.2 = s (done ++ row)
  nd : (done ++ row).Nodup
  hv : ∀ k ∈ row, k ∈ heavy
theorem Ent.cs {s : List α → List α} {w : List α × List α} {heavy done : List α} {q : Key α} {row : List α} (E : Ent s w heavy done q row) : Cs w row :=
  ⟨E.one.trans (List.take_sublist _ _), E.two.trans (List.take_sublist _ _)⟩
theorem Ent.start {s : List α → List α} {w : List α × List α} {heavy done : List α} (hs : s done = done) (nd : done.Nodup) : Ent s w heavy done ((0, 0), done) [] :=
  ⟨by simp, by simp, by simp [hs], by simpa using nd, by simp⟩
theorem Ent.step {s : List α → List α} (S : Srt s) {w : List α × List α} {heavy done : List α} {q : Key α} {row : List α} (E : Ent s w heavy done q row) {k : α} (hk : k ∈ heavy) (m : MayK w q k) :
    Ent s w heavy done (stepK s w q k) (row ++ [k]) := by
  obtain ⟨m1, m2, m3⟩ := m
  have hn : k ∉ done ++ row := fun h => m1 (by rw [E.key]; exact S.mem.mpr h)
  refine ⟨sub_on E.one m2, sub_on E.two m3, ?_, ?_, ?_⟩
  · show s (q.2 ++ [k]) = _
    rw [E.key, S.app, List.append_assoc]
  · rw [← List.append_assoc]
    refine List.nodup_append.mpr ⟨E.nd, by simp, ?_⟩
    intro a ha b hb e
    rw [List.mem_singleton.mp hb] at e
    exact hn (e ▸ ha)
  · intro x hx
    rcases List.mem_append.mp hx with h | h
    · exact E.hv x h
    · rw [List.mem_singleton.mp h]; exact hk

/-- closed: with each key each one more -/
def Closed (s : List α → List α) (w : List α × List α) (heavy : List α) (P : Key α → Prop) : Prop := ∀ q, P q → ∀ k ∈ heavy, MayK w q k → P (stepK s w q k)

/-- all that can be done behind done is in a closed lot -/
theorem closed_all {s : List α → List α} (S : Srt s) {w : List α × List α} {heavy done : List α} {P : Key α → Prop} (C : Closed s w heavy P) :
    ∀ (r pre : List α) (q : Key α), P q → q.2 = s (done ++ pre) → (done ++ (pre ++ r)).Nodup → (∀ k ∈ r, k ∈ heavy) → r.Sublist (w.1.drop q.1.1) → r.Sublist (w.2.drop q.1.2) →
      ∃ q', P q' ∧ q'.2 = s (done ++ (pre ++ r))
  | [], pre, q, h, e, _, _, _, _ => ⟨q, h, by rw [List.append_nil]; exact e⟩
  | k :: r, pre, q, h, e, nd, hv, s1, s2 => by
    obtain ⟨a1, a2⟩ := sub_behind s1
    obtain ⟨b1, b2⟩ := sub_behind s2
    have hn : k ∉ done ++ pre := by
      rw [← List.append_assoc] at nd
      intro hk
      exact (List.nodup_append.mp nd).2.2 k hk k List.mem_cons_self rfl
    have m : MayK w q k := ⟨by rw [e]; exact fun z => hn (S.mem.mp z), a1, b1⟩
    have h' := C q h k (hv k List.mem_cons_self) m
    have ep : pre ++ k :: r = (pre ++ [k]) ++ r := by simp
    rw [ep] at nd ⊢
    refine closed_all S C r (pre ++ [k]) (stepK s w q k) h' ?_ nd (fun x hx => hv x (List.mem_cons_of_mem _ hx)) ?_ ?_
    · show s (q.2 ++ [k]) = _
      rw [e, S.app, List.append_assoc]
    · rw [drop_nxt] at a2; exact a2
    · rw [drop_nxt] at b2; exact b2

/-- what the ends of a shelf are: kinds done behind it, each with a row -/
structure Ends (s : List α → List α) (w : List α × List α) (heavy done : List α) (res : List (List α × List α)) : Prop where
  sound : ∀ p ∈ res, Cs w p.2 ∧ (done ++ p.2).Nodup ∧ (∀ k ∈ p.2, k ∈ heavy) ∧ p.1 = s (done ++ p.2)
  full : ∀ r, Cs w r → (done ++ r).Nodup → (∀ k ∈ r, k ∈ heavy) → ∃ p ∈ res, p.1 = s (done ++ r)

theorem ends_of_closed {s : List α → List α} (S : Srt s) {w : List α × List α} {heavy done : List α} {known : List (Key α × List α)} (hs : s done = done)
    (hE : ∀ e ∈ known, Ent s w heavy done e.1 e.2) (h0 : ((0, 0), done) ∈ known.map (·.1)) (C : Closed s w heavy fun q => q ∈ known.map (·.1)) {res : List (List α × List α)}
    (hr : res.Perm (known.map fun e => (e.1.2, e.2))) : Ends s w heavy done res := by
  refine ⟨fun p hp => ?_, fun r hc nd hv => ?_⟩
  · obtain ⟨e, he, rfl⟩ := List.mem_map.mp (hr.mem_iff.mp hp)
    have E := hE e he
    exact ⟨E.cs, E.nd, E.hv, E.key⟩
  · obtain ⟨q', hq, e⟩ := closed_all S (done := done) C r [] ((0, 0), done) h0 (by simp [hs]) nd hv hc.1 hc.2
    obtain ⟨e', he', rfl⟩ := List.mem_map.mp hq
    exact ⟨(e'.1.2, e'.2), hr.mem_iff.mpr (List.mem_map.mpr ⟨e', he', rfl⟩), e⟩

/-! ### shelf by shelf -/
inductive All2 : List (List α × List α) → List (List α) → Prop
  | nil : All2 [] []
  | snoc {ws : List (List α × List α)} {rs : List (List α)} {w : List α × List α} {r : List α} : All2 ws rs → Cs w r → All2 (ws ++ [w]) (rs ++ [r])
theorem All2.inv {ws : List (List α × List α)} {w : List α × List α} {rs : List (List α)} (h : All2 (ws ++ [w]) rs) : ∃ rs' r, rs = rs' ++ [r] ∧ All2 ws rs' ∧ Cs w r := by
  generalize e : ws ++ [w] = v at h
  cases h with
  | nil => exact absurd e (by simp)
  | snoc h1 h2 =>
    obtain ⟨e1, e2⟩ := List.append_inj' e rfl
    cases e1
    cases e2
    exact ⟨_, _, rfl, h1, h2⟩
theorem All2.nil_inv {rs : List (List α)} (h : All2 ([] : List (List α × List α)) rs) : rs = [] := by
  generalize e : ([] : List (List α × List α)) = v at h
  cases h with
  | nil => rfl
  | snoc h1 h2 => exact absurd e (by simp)
theorem All2.length {ws : List (List α × List α)} {rs : List (List α)} (h : All2 ws rs) : rs.length = ws.length := by
  induction h with
  | nil => rfl
  | snoc _ _ ih => simp [ih]
theorem All2.at {ws : List (List α × List α)} {rs : List (List α)} (h : All2 ws rs) : ∀ (i : Nat) (w : List α × List α) (r : List α), ws[i]? = some w → rs[i]? = some r → Cs w r := by
  induction h with
  | nil => intro i w r h1; simp at h1
  | snoc h1 h2 ih =>
    rename_i ws rs w' r'
    intro i w r hw hr
    have hl := h1.length
    by_cases hi : i < ws.length
    · rw [List.getElem?_append_left hi] at hw
      rw [List.getElem?_append_left (by omega)] at hr
      exact ih i w r hw hr
    · rw [List.getElem?_append_right (by omega)] at hw hr
      rw [hl] at hr
      by_cases hz : i - ws.length = 0
      · rw [hz] at hw hr
        simp at hw hr
        rw [← hw, ← hr]
        exact h2
      · obtain ⟨j, hj⟩ : ∃ j, i - ws.length = j + 1 := ⟨i - ws.length - 1, by omega⟩
        rw [hj] at hw
        simp at hw
theorem All2.swap {ws : List (List α × List α)} {rs : List (List α)} (h : All2 ws rs) : All2 (ws.map fun w => (w.2, w.1)) rs := by
  induction h with
  | nil => exact .nil
  | snoc h1 h2 ih => rw [List.map_append]; exact .snoc ih ⟨h2.2, h2.1⟩

/-- rows for the first shelves -/
structure RowsOk (heavy : List α) (ws : List (List α × List α)) (rs : List (List α)) : Prop where
  cs : All2 ws rs
  nd : rs.flatten.Nodup
  hv : ∀ k ∈ rs.flatten, k ∈ heavy
theorem RowsOk.nil {heavy : List α} : RowsOk heavy [] ([] : List (List α)) := ⟨.nil, by simp, by simp⟩
theorem flat_snoc (rs : List (List α)) (r : List α) : (rs ++ [r]).flatten = rs.flatten ++ r := by simp
theorem RowsOk.snoc {heavy : List α} {ws : List (List α × List α)} {rs : List (List α)} {w : List α × List α} {r : List α} (R : RowsOk heavy ws rs) (c : Cs w r) (nd : (rs.flatten ++ r).Nodup) (hv : ∀ k ∈ r, k ∈ heavy) :
    RowsOk heavy (ws ++ [w]) (rs ++ [r]) :=
  ⟨.snoc R.cs c, by rw [flat_snoc]; exact nd, fun k hk => by
    rw [flat_snoc] at hk
    rcases List.mem_append.mp hk with h | h
    · exact R.hv k h
    · exact hv k h⟩
theorem RowsOk.inv {heavy : List α} {ws : List (List α × List α)} {w : List α × List α} {rs : List (List α)} (R : RowsOk heavy (ws ++ [w]) rs) :
    ∃ rs' r, rs = rs' ++ [r] ∧ RowsOk heavy ws rs' ∧ Cs w r ∧ (rs'.flatten ++ r).Nodup ∧ ∀ k ∈ r, k ∈ heavy := by
  obtain ⟨rs', r, rfl, h1, h2⟩ := R.cs.inv
  have nd := R.nd
  have hv := R.hv
  rw [flat_snoc] at nd hv
  exact ⟨rs', r, rfl, ⟨h1, (List.nodup_append.mp nd).1, fun k hk => hv k (List.mem_append_left _ hk)⟩, h2, nd, fun k hk => hv k (List.mem_append_right _ hk)⟩

/-- the program's table behind some shelves -/
structure Known (s : List α → List α) (heavy : List α) (ws : List (List α × List α)) (kn : List (List α × List (List α))) : Prop where
  sound : ∀ p ∈ kn, RowsOk heavy ws p.2 ∧ p.1 = s p.2.flatten
  full : ∀ rs, RowsOk heavy ws rs → s rs.flatten ∈ kn.map (·.1)
theorem Known.start {s : List α → List α} (S : Srt s) {heavy : List α} : Known s heavy [] [(([] : List α), ([] : List (List α)))] :=
  ⟨fun p hp => by
    rw [List.mem_singleton.mp hp]
    exact ⟨.nil, by simp [S.nil]⟩, fun rs R => by
    rw [R.cs.nil_inv]
    simp [S.nil]⟩

/-- what one shelf makes of it: from each entry each end; each key once or more -/
structure Later (s : List α → List α) (heavy : List α) (w : List α × List α) (kn la : List (List α × List (List α))) : Prop where
  sound : ∀ p ∈ la, ∃ e ∈ kn, ∃ r, p.2 = e.2 ++ [r] ∧ Cs w r ∧ (e.1 ++ r).Nodup ∧ (∀ k ∈ r, k ∈ heavy) ∧ p.1 = s (e.1 ++ r)
  full : ∀ e ∈ kn, ∀ r, Cs w r → (e.1 ++ r).Nodup → (∀ k ∈ r, k ∈ heavy) → s (e.1 ++ r) ∈ la.map (·.1)
theorem Known.step {s : List α → List α} (S : Srt s) {heavy : List α} {ws : List (List α × List α)} {w : List α × List α} {kn la : List (List α × List (List α))} (K : Known s heavy ws kn) (L : Later s heavy w kn la) : Known s heavy (ws ++ [w]) la := by
  refine ⟨fun p hp => ?_, fun rs R => ?_⟩
  · obtain ⟨e, he, r, e1, c, nd, hv, e2⟩ := L.sound p hp
    obtain ⟨R, ek⟩ := K.sound e he
    have pm : (e.1 ++ r).Perm (e.2.flatten ++ r) := by rw [ek]; exact (S.perm _).append_right r
    refine ⟨?_, ?_⟩
    · rw [e1]
      exact R.snoc c (pm.nodup_iff.mp nd) hv
    · rw [e2, e1, flat_snoc]
      exact S.can _ _ pm
  · obtain ⟨rs', r, rfl, R', c, nd, hv⟩ := R.inv
    obtain ⟨e, he, e1⟩ := List.mem_map.mp (K.full rs' R')
    have pm : (e.1 ++ r).Perm (rs'.flatten ++ r) := by rw [e1]; exact (S.perm _).append_right r
    have q := L.full e he r c (pm.nodup_iff.mpr nd) hv
    rw [S.can _ _ pm, ← flat_snoc] at q
    exact q

/-- the heavy kinds can be divided -/
def Meet (ws : List (List α × List α)) (heavy : List α) : Prop := ∃ rs, All2 ws rs ∧ rs.flatten.Perm heavy
theorem Meet.swap {ws : List (List α × List α)} {heavy : List α} (h : Meet ws heavy) : Meet (ws.map fun w => (w.2, w.1)) heavy := by
  obtain ⟨rs, h1, h2⟩ := h
  exact ⟨rs, h1.swap, h2⟩
theorem Meet.perm {ws : List (List α × List α)} {heavy hv : List α} (h : Meet ws heavy) (p : heavy.Perm hv) : Meet ws hv := by
  obtain ⟨rs, h1, h2⟩ := h
  exact ⟨rs, h1, h2.trans p⟩
theorem Known.found {s : List α → List α} (S : Srt s) {heavy : List α} {ws : List (List α × List α)} {kn : List (List α × List (List α))} (K : Known s heavy ws kn) (hh : s heavy = heavy) {p : List α × List (List α)} (hp : p ∈ kn) (e : p.1 = heavy) :
    All2 ws p.2 ∧ p.2.flatten.Perm heavy := by
  obtain ⟨R, ek⟩ := K.sound p hp
  exact ⟨R.cs, S.eq_iff.mp (by rw [← ek, e, hh])⟩
theorem Known.meet {s : List α → List α} (S : Srt s) {heavy : List α} {ws : List (List α × List α)} {kn : List (List α × List (List α))} (K : Known s heavy ws kn) (hh : s heavy = heavy) (nd : heavy.Nodup) (m : Meet ws heavy) : heavy ∈ kn.map (·.1) := by
  obtain ⟨rs, h1, h2⟩ := m
  have q := K.full rs ⟨h1, h2.nodup_iff.mpr nd, fun k hk => h2.mem_iff.mp hk⟩
  rw [S.can _ _ h2, hh] at q
  exact q

/-! ### the law's search -/
/-- the lots of one shelf -/
def LotOk (s : List α → List α) (w : List α × List α) (sorts : List α) (ks : List α) : Prop := ∃ r, Cs w r ∧ r.Nodup ∧ (∀ k ∈ r, k ∈ sorts) ∧ ks = s r
theorem LotOk.nil {s : List α → List α} (S : Srt s) {w : List α × List α} {sorts : List α} : LotOk s w sorts [] := ⟨[], ⟨by simp, by simp⟩, by simp, by simp, by rw [S.nil]⟩
def behindW (w : List α × List α) (k : α) : List α × List α := (w.1.drop (w.1.idxOf k + 1), w.2.drop (w.2.idxOf k + 1))
theorem LotOk.cons {s : List α → List α} (S : Srt s) {w : List α × List α} {sorts lot : List α} {k : α} (h1 : k ∈ w.1) (h2 : k ∈ w.2) (h3 : k ∈ sorts) (L : LotOk s (behindW w k) (sorts.filter fun x => decide (x ≠ k)) lot) :
    LotOk s w sorts (s (lot ++ [k])) := by
  obtain ⟨r, c, nd, hv, e⟩ := L
  refine ⟨k :: r, ⟨sub_ahead h1 c.1, sub_ahead h2 c.2⟩, List.nodup_cons.mpr ⟨fun h => ?_, nd⟩, fun x hx => ?_, ?_⟩
  · have := (List.mem_filter.mp (hv k h)).2
    simp at this
  · rcases List.mem_cons.mp hx with z | z
    · rw [z]; exact h3
    · exact (List.mem_filter.mp (hv x z)).1
  · rw [e]
    refine S.can _ _ ?_
    exact ((S.perm r).append_right [k]).trans (List.perm_append_singleton k r)
theorem LotOk.inv {s : List α → List α} (S : Srt s) {w : List α × List α} {sorts ks : List α} (L : LotOk s w sorts ks) :
    ks = [] ∨ ∃ k, k ∈ w.1 ∧ k ∈ w.2 ∧ k ∈ sorts ∧ ∃ lot, LotOk s (behindW w k) (sorts.filter fun x => decide (x ≠ k)) lot ∧ ks = s (lot ++ [k]) := by
  obtain ⟨r, c, nd, hv, e⟩ := L
  cases r with
  | nil => exact .inl (by rw [e, S.nil])
  | cons k r =>
    obtain ⟨a1, a2⟩ := sub_behind c.1
    obtain ⟨b1, b2⟩ := sub_behind c.2
    obtain ⟨n1, n2⟩ := List.nodup_cons.mp nd
    refine .inr ⟨k, a1, b1, hv k List.mem_cons_self, s r, ⟨r, ⟨a2, b2⟩, n2, fun x hx => ?_, rfl⟩, ?_⟩
    · refine List.mem_filter.mpr ⟨hv x (List.mem_cons_of_mem _ hx), ?_⟩
      simp
      exact fun z => n1 (z ▸ hx)
    · rw [e]
      exact S.can _ _ ((List.perm_append_singleton k r).symm.trans ((S.perm r).symm.append_right [k]))

/-- the law's lots behind some shelves: keys alone -/
def LKnown (s : List α → List α) (heavy : List α) (ws : List (List α × List α)) (kn : List (List α)) : Prop := ∀ ks, ks ∈ kn ↔ ∃ rs, RowsOk heavy ws rs ∧ ks = s rs.flatten
theorem LKnown.start {s : List α → List α} (S : Srt s) {heavy : List α} : LKnown s heavy [] [([] : List α)] := fun ks => by
  constructor
  · intro h
    rw [List.mem_singleton.mp h]
    exact ⟨[], .nil, by simp [S.nil]⟩
  · rintro ⟨rs, R, e⟩
    rw [R.cs.nil_inv] at e
    rw [e]
    simp [S.nil]
theorem LKnown.step {s : List α → List α} (S : Srt s) {heavy : List α} {ws : List (List α × List α)} {w : List α × List α} {kn lots la : List (List α)} (K : LKnown s heavy ws kn) (hl : ∀ ks, ks ∈ lots ↔ LotOk s w heavy ks)
    (h : ∀ ks, ks ∈ la ↔ ∃ lot ∈ lots, ∃ d ∈ kn, (∀ k ∈ lot, k ∉ d) ∧ ks = s (d ++ lot)) : LKnown s heavy (ws ++ [w]) la := fun ks => by
  rw [h]
  constructor
  · rintro ⟨lot, h1, d, h2, h3, e⟩
    obtain ⟨r, c, nd, hv, e1⟩ := (hl lot).mp h1
    obtain ⟨rs, R, e2⟩ := (K d).mp h2
    refine ⟨rs ++ [r], R.snoc c ?_ hv, ?_⟩
    · refine List.nodup_append.mpr ⟨R.nd, nd, fun a ha b hb e' => ?_⟩
      refine h3 b (by rw [e1]; exact S.mem.mpr hb) (by rw [e2]; exact S.mem.mpr (e' ▸ ha))
    · rw [e, e1, e2, S.app2, flat_snoc]
  · rintro ⟨rs, R, e⟩
    obtain ⟨rs', r, rfl, R', c, nd, hv⟩ := R.inv
    have nd2 := List.nodup_append.mp nd
    refine ⟨s r, (hl _).mpr ⟨r, c, nd2.2.1, hv, rfl⟩, s rs'.flatten, (K _).mpr ⟨rs', R', rfl⟩, fun k hk hd => ?_, ?_⟩
    · exact nd2.2.2 k (S.mem.mp hd) k (S.mem.mp hk) rfl
    · rw [e, S.app2, flat_snoc]
theorem LKnown.meet {s : List α → List α} (S : Srt s) {heavy : List α} {ws : List (List α × List α)} {kn : List (List α)} (K : LKnown s heavy ws kn) (hh : s heavy = heavy) (nd : heavy.Nodup) : heavy ∈ kn ↔ Meet ws heavy := by
  rw [K]
  constructor
  · rintro ⟨rs, R, e⟩
    exact ⟨rs, R.cs, S.eq_iff.mp (by rw [← e, hh])⟩
  · rintro ⟨rs, h1, h2⟩
    exact ⟨rs, ⟨h1, h2.nodup_iff.mpr nd, fun k hk => h2.mem_iff.mp hk⟩, by rw [S.can _ _ h2, hh]⟩
end KM
end

section
set_option Elab.async false
set_option linter.all false
set_option maxRecDepth 100000
set_option maxHeartbeats 4000000
/-! K81: a set of texts made by a comprehension of two loops, and sorted. -/
namespace K8
open PySem PySem.Spec PyProof.Rows L2 PySem.Froz

/-! ### texts in order -/
def srtS (ks : List Str) : List Str := ks.mergeSort (PySem.W.dataLe false fun k : Str => PyData.str k)
theorem srtS_perm (ks : List Str) : (srtS ks).Perm ks := List.mergeSort_perm _ _
theorem srtS_pair (ks : List Str) : (srtS ks).Pairwise fun a b => PySem.W.dataLe false (fun k : Str => PyData.str k) a b = true := PySem.W.sort_pairwise (PySem.W.sortLe_total _ _ _) ks
theorem le_anti {a b : Str} (h1 : PySem.W.dataLe false (fun k : Str => PyData.str k) a b = true) (h2 : PySem.W.dataLe false (fun k : Str => PyData.str k) b a = true) : a = b := by
  rw [PySem.W.dataLe_str (fun k : Str => k)] at h1 h2
  exact PySem.W.str_of_cps (List.le_antisymm (of_decide_eq_true h1) (of_decide_eq_true h2))
theorem srtS_can {l m : List Str} (p : l.Perm m) : srtS l = srtS m :=
  List.Perm.eq_of_pairwise (fun a b _ _ h1 h2 => le_anti h1 h2) (srtS_pair l) (srtS_pair m) ((srtS_perm l).trans (p.trans (srtS_perm m).symm))
theorem srtS_self {l : List Str} (h : l.Pairwise fun a b => PySem.W.dataLe false (fun k : Str => PyData.str k) a b = true) : srtS l = l :=
  List.Perm.eq_of_pairwise (fun a b _ _ h1 h2 => le_anti h1 h2) (srtS_pair l) h (srtS_perm l)
theorem srtS_filter (l : List Str) (p : Str → Bool) : srtS ((srtS l).filter p) = (srtS l).filter p := srtS_self ((srtS_pair l).filter p)
theorem KSrt : KM.Srt srtS := ⟨srtS_perm, fun _ _ p => srtS_can p⟩
theorem srtD_text (ks : List Str) : srtD (ks.map NestedKey.text) = (srtS ks).map NestedKey.text := (PySem.W.sort_maps NestedKey.text fun _ _ _ _ => rfl).symm
theorem sortOk_texts {ks : List Str} (h : ks.length ≤ 100000) : SortOk (ks.map NestedKey.text) := by
  refine ⟨fun d hd d' hd' => ?_, .inr fun d hd => ?_, fun d hd => ?_, by rw [List.length_map, sizeLine_eq]; omega⟩
  · obtain ⟨e, he, rfl⟩ := List.mem_map.mp hd
    obtain ⟨e', he', rfl⟩ := List.mem_map.mp hd'
    obtain ⟨k, _, rfl⟩ := List.mem_map.mp he
    obtain ⟨k', _, rfl⟩ := List.mem_map.mp he'
    simp [NestedKey.data, PySem.W.alike]
  · obtain ⟨k, _, rfl⟩ := List.mem_map.mp hd
    exact ⟨k, rfl⟩
  · obtain ⟨k, _, rfl⟩ := List.mem_map.mp hd
    exact Nat.zero_le _

/-! ### sets of texts -/
def txOf (e : Int × Value) : Str := match e.2 with | .str x _ => x | _ => Str.empty
def TxE (w : World) (e : Int × Value) : Prop := ∃ x t, e.2 = Value.str x t ∧ e.1 = hashStr w x
/-- the payload holds just the texts L -/
structure PL (P : Program) (w : World) (D : Froz.SD) (L : List Str) : Prop where
  tx : PySem.Froz.TxOk P w D L
  good : ∀ e ∈ D.1.toList, TxE w e
  perm : (D.1.toList.map txOf).Perm L
  nd : L.Nodup
  ris : Ris D.2.2.place.toList
  led : w.params.followText "set-order" = true ∨ D.2.2.led = true
section
variable {P : Program} {w : World}
theorem PL.tail {ep : Nat} {es : Array (Int × Value)} {t : SetTable} {wd : Bool} {L : List Str} (F : PL P w (es, ep, t) L) : PL P w (tailTx ep es t wd) L := by
  have z := tail_ok (wasDummy := wd) F.tx
  unfold tailTx at z ⊢
  by_cases c : (!wd && t.tooFull) = true
  · rw [if_pos c] at z ⊢
    have pm := relayAll_perm t es (SetTable.grown es.size)
    exact ⟨z, fun e he => F.good e (pm.mem_iff.mp he), (pm.map txOf).trans F.perm, F.nd, relayAll_ris t es _, F.led.imp id fun q => by
      show (relayAll t es (SetTable.grown es.size)).2.1.led = true
      rw [relayAll_led]; exact q⟩
  · rw [if_neg c] at z ⊢
    exact ⟨z, F.good, F.perm, F.nd, F.ris, F.led⟩
theorem PL.add {D : Froz.SD} {L : List Str} {k : Str} (u : Tok) (F : PL P w D L) (hk : k ∉ L) : PL P w (addTx (hashStr w k) (.str k u) D) (k :: L) := by
  obtain ⟨es, ep, t⟩ := D
  have pm := layNew_perm t es (hashStr w k) (.str k u)
  have pf := layNew_fits t es (hashStr w k) (.str k u)
  have pr := layNew_ris t es (hashStr w k) (.str k u) F.ris
  have pl := layNew_led t es (hashStr w k) (.str k u)
  unfold addTx
  refine PL.tail ?_
  rw [Array.toList_push] at pm
  have pc : List.Perm (layNew t es (hashStr w k) (.str k u)).1.toList ((hashStr w k, Value.str k u) :: es.toList) := pm.trans (List.perm_append_singleton _ _)
  have ft : ∀ c : Bool, (if c = true then { (layNew t es (hashStr w k) (.str k u)).2.1 with plain := false } else (layNew t es (hashStr w k) (.str k u)).2.1).fits (layNew t es (hashStr w k) (.str k u)).1.size = true := fun c => by
    cases c with
    | true => exact SetTable.fits_plain_off pf
    | false => exact pf
  have pu : List.Perm (layNew t es (hashStr w k) (.str k u)).1.toList (es.push (hashStr w k, .str k u)).toList := by rw [Array.toList_push]; exact pm
  refine ⟨F.tx.push pu (ft _), fun e he => ?_, (pc.map txOf).trans (List.Perm.cons k F.perm), List.nodup_cons.mpr ⟨hk, F.nd⟩, ?_, ?_⟩
  · rcases List.mem_cons.mp (pc.mem_iff.mp he) with z | z
    · rw [z]; exact ⟨k, u, rfl, rfl⟩
    · exact F.good e z
  · by_cases c : (layNew t es (hashStr w k) (.str k u)).2.1.plain = true
    · rw [if_pos c]; exact pr
    · rw [if_neg c]; exact pr
  · refine F.led.imp id fun q => ?_
    by_cases c : (layNew t es (hashStr w k) (.str k u)).2.1.plain = true
    · rw [if_pos c]; exact pl.trans q
    · rw [if_neg c]; exact pl.trans q
/-- a text that is in already -/
theorem add_in {A : Around} {E : Value → Shared → Prop} {s : Shared} {a : Addr} {D : Froz.SD} {L : List Str} {k : Str} {u : Tok} {Q : Bool → Shared → Prop} (ho : s.heap.get? a = some (sObj "set" D)) (F : PL P w D L) (hk : k ∈ L) (hb : L.length < scanBound)
    (h : Q false s) : wpAny (model P w) A (setAddHashed a (.str k u) (hashStr w k)) Q E s := by
  obtain ⟨es, ep, t⟩ := D
  have hd : (sObj "set" (es, ep, t)).data = .set es ep t := rfl
  have hsz : es.size = L.length := F.tx.sz
  have hel : ElemsOf (strKind P w) es.toList := F.tx.el
  have hkey : (strKind P w).is k (.str k u) = true := is_str k u
  obtain ⟨e0, he0, z0⟩ := (F.tx.mem k).mp hk
  cases hr : List.findIdx? (fun e => (strKind P w).is k e.2) es.toList with
  | none =>
    have c := List.findIdx?_eq_none_iff.mp hr e0 he0
    rw [z0] at c
    cases c
  | some j =>
    unfold setAddHashed setAddHashedIn
    refine wpAny_holding (wpAny_bind (wpAny_setState_of ho hd F.tx.fit ?_))
    dsimp only
    rw [byScan_of rfl (by omega) hel]
    simp only [↓reduceIte]
    unfold setAddByScan
    refine wpAny_bind (wpAny_bind (wpAny_rule (wpAny_bind (wpAny_setScan_of (knd := strKind P w) (k := k) hkey ho hd F.tx.fit hel ?_))))
    rw [hr]
    exact wpAny_pure (wpAny_pure h)
/-- set.add of a text -/
theorem add_text {A : Around} {E : Value → Shared → Prop} {s : Shared} {a : Addr} {D : Froz.SD} {L : List Str} {k : Str} {u : Tok} {Q : Value → Shared → Prop} (ho : s.heap.get? a = some (sObj "set" D)) (F : PL P w D L) (hb : L.length + 1 < scanBound)
    (h1 : k ∈ L → Q .none { s with toks := s.toks + 1 }) (h2 : k ∉ L → ∀ D' h', PL P w D' (k :: L) → h'.get? a = some (sObj "set" D') → Heap.SameBut a s.heap h' → Q .none { s with heap := h', toks := s.toks + 1 }) :
    wpAny (model P w) A (call (.builtin "set.add") [.ref a, .str k u]) Q E s := by
  have hT : s.TypeIs (.ref a) "set" := ⟨_, ho, rfl⟩
  refine wpAny_call_entry PySem.F.slot_set_add hT PySem.F.entry_set_add ?_ (PySem.F.args_set_add_2 _ _)
  unfold Builtin.«set.add» Builtin.Frozenset.oneOther
  simp only [List.isEmpty_nil, bind_assoc]
  unfold Builtin.Frozenset.addrOf setAdd
  refine wpAny_bind (wpAny_pure ?_)
  try dsimp only
  refine wpAny_bind (wpAny_pure ?_)
  try dsimp only
  refine wpAny_bind (wpAny_holding (wpAny_bind ((strKind P w).pyHash (k := k) (is_str k u) ?_)))
  by_cases hk : k ∈ L
  · refine add_in (s := { s with toks := s.toks + 1 }) ho F hk (by omega) ?_
    show wpAny _ _ (ret Value.none) _ _ _
    exact wpAny_pure ⟨_, rfl, h1 hk⟩
  · refine add_x (s := { s with toks := s.toks + 1 }) ho F.tx hk hb ?_
    show wpAny _ _ (ret Value.none) _ _ _
    exact wpAny_pure ⟨_, rfl, h2 hk _ _ (F.add u hk) (get_upd _ ho rfl) (Heap.SameBut.update ..)⟩
/-- tracked -/
def SetS (P : Program) (w : World) (a : Addr) (L : List Str) : HO := .ext fun h => ∃ D, h.get? a = some (sObj "set" D) ∧ PL P w D L
theorem setS_ok {H : Hp} {h : Heap} {a : Addr} {D : Froz.SD} {L : List Str} (e : h.get? a = some (sObj "set" D)) (F : PL P w D L) : ObjOk P w H h a (SetS P w a L) :=
  ⟨⟨D, e, F⟩, ⟨_, e⟩, fun _ _ z k => let ⟨D, e, F⟩ := z; ⟨D, k _ e, F⟩⟩
theorem pl_fresh : PL P w ((#[], 0, .fresh 0 0 (!w.params.followText "set-order")) : Froz.SD) [] := by
  refine ⟨PySem.Froz.TxOk.nil rfl, fun e he => by simp at he, .nil, List.nodup_nil, List.Pairwise.nil, ?_⟩
  show _ ∨ (!w.params.followText "set-order") = true
  cases w.params.followText "set-order"
  · exact .inr rfl
  · exact .inl rfl
end
section
variable {X : Cx} {pins : List (Addr × Obj)} {σ : L2.St} {H : Hp} {s : Shared}
theorem addS_ok {E : Value → Shared → Prop} {D : Addr} {L : List Str} {k : Str} {v : Value} {Q : Value → Shared → Prop} (I : Inv X pins σ H s) (hD : H D = some (SetS X.prog X.w D L)) (hb : L.length + 1 < scanBound) (r : RelV (.str k) v)
    (h : ∀ s' L', (∀ x, x ∈ L' ↔ x ∈ L ∨ x = k) → L'.Nodup → L'.length ≤ L.length + 1 → Inv X pins σ (upd H D (SetS X.prog X.w D L')) s' → Q .none s') : wpAny (model X.prog X.w) X.A (call (.builtin "set.add") [.ref D, v]) Q E s := by
  obtain ⟨u, rfl⟩ := r
  obtain ⟨⟨DD, ho, F⟩, _⟩ := (show ObjOk X.prog X.w H s.heap D (SetS X.prog X.w D L) from I.hok D _ hD)
  refine add_text ho F hb (fun hk => ?_) fun hk D' h' F' e sb => ?_
  · have e : upd H D (SetS X.prog X.w D L) = H := by
      funext b
      by_cases z : b = D
      · subst z; rw [upd_same, hD]
      · rw [upd_ne z]
    refine h _ L (fun x => ⟨.inl, fun z => z.elim id fun q => q ▸ hk⟩) F.nd (Nat.le_succ _) ?_
    rw [e]
    exact I.tok _
  · refine h _ (k :: L) (fun x => ?_) F'.nd (by rw [List.length_cons]; exact Nat.le_refl _) (I.write (t' := s.toks + 1) (by rw [hD]; exact True.intro) (.inl rfl) (fun b q hb z => (sb.2 b hb).trans z) ⟨_, e⟩ (setS_ok e F'))
    rw [List.mem_cons]
    exact Or.comm
/-- sorted(a set of texts) -/
def rSortSet (P : Program) (w : World) : List V → Hp → VK → Prop := fun vs H Q => ∃ (a : Addr) (L : List Str), vs = [V.ref a] ∧ H a = some (SetS P w a L) ∧ L.length ≤ 1000 ∧
  ∀ p, H p = none → Q (.ref p) (upd H p (.lst ((srtS L).map V.str)))
theorem cr_sortSet (hc : X.calm = true) (hu : X.A.units + 64 < cLine) : CallR X (.builtin "sorted") (rSortSet X.prog X.w) := by
  intro pins s σ H vs us Q I r h
  obtain ⟨a, L, rfl, ha, hl, q⟩ := h
  obtain rfl := Vals.ref1 r
  obtain ⟨⟨DD, ho, F⟩, _⟩ := (show ObjOk X.prog X.w H s.heap a (SetS X.prog X.w a L) from I.hok a _ ha)
  obtain ⟨es, ep, t⟩ := DD
  have hsz : es.size = L.length := F.tx.sz
  refine sorted_by hu (collect_set (A := X.A.in1) (es := es) (ep := ep) (t := t) (I.ok.hd hc) ⟨_, ho, rfl, rfl⟩ F.tx.fit (by rw [hsz]; exact Nat.lt_of_le_of_lt hl (by decide)) F.ris F.led fun s' out k hz hg ho' pm => ?_)
  have key : ∀ {l : List Value}, (∀ v ∈ l, ∃ x t, v = Value.str x t) → ∃ M : List Str, Vals (M.map V.str) l ∧ M = l.map fun v => match v with | .str x _ => x | _ => Str.empty := fun {l} hl => by
    induction l with
    | nil => exact ⟨[], .nil, rfl⟩
    | cons v l ih =>
      obtain ⟨M, h1, h2⟩ := ih fun u hu => hl u (List.mem_cons_of_mem _ hu)
      obtain ⟨x, t, rfl⟩ := hl v List.mem_cons_self
      exact ⟨x :: M, .cons ⟨t, rfl⟩ h1, by rw [h2]; rfl⟩
  obtain ⟨M, hM, eM⟩ := key (l := out) fun v hv => by
    obtain ⟨e, he, rfl⟩ := List.mem_map.mp (pm.mem_iff.mp hv)
    obtain ⟨x, t, h1, _⟩ := F.good e he
    exact ⟨x, t, h1⟩
  have pM : M.Perm L := by
    rw [eM]
    refine (pm.map _).trans ?_
    rw [List.map_map]
    exact F.perm
  refine ⟨H, M.map V.str, M.map NestedKey.text, kept_any I ho' hg k, hM, TpA.ofTexts M, sortOk_texts (by rw [pM.length_eq]; omega), fun p ys hp ty => ?_⟩
  rw [srtD_text] at ty
  rw [ty.texts, srtS_can pM]
  exact q p hp
end
end K8
end

section
set_option Elab.async false
set_option linter.all false
set_option maxRecDepth 100000
set_option maxHeartbeats 4000000
/-! K81: {e for a in xs for b in ys}, e a text. -/
namespace K8
open PySem PySem.Spec PyProof.Rows L2 PySem.Froz

section
variable {prog : Program} {w : World} {A : Around} {R : Result → Shared → Prop} {s : Shared} {el t0 i0 t1 i1 : Expr} {sc : Scope} {ps : Pos} {it acc : Value} {env : Env}
abbrev SC2 (el t0 i0 t1 i1 : Expr) (sc : Scope) (ps : Pos) : Expr := .SetComp el [⟨t0, i0, [], 0⟩, ⟨t1, i1, [], 0⟩] sc ps
theorem sc2_turn0 : compTurn (SC2 el t0 i0 t1 i1 sc ps) 0 it acc env = (do
      standAt i0.pos
      match ← pyNext it with
      | none => pure (.done .next)
      | some u =>
        letOwnedTupleGo t0 it u
        assign t0 env u
        let mut ok := true
        if ok then
          let z ← eval i1 env
          standAt i1.pos
          let z ← foldedSetIterable i1 env z
          let _ ← runOwn (.compStart (SC2 el t0 i0 t1 i1 sc ps) 1 (← holding [z] (pyIter z)) acc env) env
        again (.compLoop (SC2 el t0 i0 t1 i1 sc ps) 0 it acc env)) := by rfl
theorem sc2_turn1 : compTurn (SC2 el t0 i0 t1 i1 sc ps) 1 it acc env = (do
      standAt i1.pos
      match ← pyNext it with
      | none => pure (.done .next)
      | some u =>
        letOwnedTupleGo t1 it u
        assign t1 env u
        let mut ok := true
        if ok then
          (do let z ← eval el env; standAt el.pos; let _ ← call (.builtin "set.add") [acc, z])
        again (.compLoop (SC2 el t0 i0 t1 i1 sc ps) 1 it acc env)) := by rfl
abbrev NB (prog : Program) (w : World) (A : Around) (env : Env) (R : Result → Shared → Prop) : Value → Shared → Prop := notedBy (model prog w) A env fun e s' => R (.error e) s'
theorem sc2_loop0 (hs : ∀ x, foldedSetIterable i1 env x = pure x) (I : Nat → Shared → Prop)
    (turn : ∀ n s, I n s → wpAny (model prog w) A (pyNext it) (fun r sa => match r with
      | none => R (.ok .next) sa
      | some u => wpAny (model prog w) A (letOwnedTupleGo t0 it u) (fun _ sb => wpAny (model prog w) A (assign t0 env u) (fun _ sd => wpAny (model prog w) A (eval i1 env) (fun x se => wpAny (model prog w) A (pyIter x) (fun it1 sf =>
              codeAny (model prog w) A (.compStart (SC2 el t0 i0 t1 i1 sc ps) 1 it1 acc env) (fun r s' => match r with
                | .ok _ => ∃ m, m < n ∧ I m s'
                | .error _ => False) sf) (NB prog w A env R) se) (NB prog w A env R) sd) (NB prog w A env R) sb) (NB prog w A env R) sa) (NB prog w A env R) s)
    (n : Nat) (h : I n s) : codeAny (model prog w) A (.compLoop (SC2 el t0 i0 t1 i1 sc ps) 0 it acc env) R s := by
  refine codeAny_loop rfl I (fun n s hI => ?_) n h
  show wpAny _ A ((compTurn (SC2 el t0 i0 t1 i1 sc ps) 0 it acc env).onRaise (fun x => do noteFrame x env; theTreesLotGoes x)) _ _ s
  refine wpAny_noted ?_
  rw [sc2_turn0]
  refine wpAny_bind (wpAny_standAt (wpAny_bind (thn (turn n s hI) fun r sa ha => ?_)))
  cases r with
  | none => exact wpAny_pure ha
  | some u =>
    refine wpAny_bind (thn ha fun _ sb hb => wpAny_bind (thn hb fun _ sd hd => ?_))
    simp only [if_true]
    refine wpAny_bind (thn hd fun x se he => wpAny_bind (wpAny_standAt (wpAny_bind (wpAny_of_eq (hs x) (wpAny_bind (wpAny_holding (thn he fun it1 sf hf => ?_)))))))
    refine wpAny_bind (wpAny_runOwn ?_)
    rw [Around.mark_none]
    refine codeAny_mono hf fun r s' hr => ?_
    cases r with
    | ok f =>
      first
        | exact wpAny_pure ⟨rfl, hr⟩
        | exact wpAny_bind (wpAny_pure (wpAny_pure ⟨rfl, hr⟩))
    | error e => exact hr.elim
theorem sc2_loop1 (I : Nat → Shared → Prop)
    (turn : ∀ n s, I n s → wpAny (model prog w) A (pyNext it) (fun r sa => match r with
      | none => R (.ok .next) sa
      | some u => wpAny (model prog w) A (letOwnedTupleGo t1 it u) (fun _ sb => wpAny (model prog w) A (assign t1 env u) (fun _ sd => wpAny (model prog w) A (eval el env) (fun x se =>
              wpAny (model prog w) A (call (.builtin "set.add") [acc, x]) (fun _ sf => ∃ m, m < n ∧ I m sf) (NB prog w A env R) se) (NB prog w A env R) sd) (NB prog w A env R) sb) (NB prog w A env R) sa) (NB prog w A env R) s)
    (n : Nat) (h : I n s) : codeAny (model prog w) A (.compLoop (SC2 el t0 i0 t1 i1 sc ps) 1 it acc env) R s := by
  refine codeAny_loop rfl I (fun n s hI => ?_) n h
  show wpAny _ A ((compTurn (SC2 el t0 i0 t1 i1 sc ps) 1 it acc env).onRaise (fun x => do noteFrame x env; theTreesLotGoes x)) _ _ s
  refine wpAny_noted ?_
  rw [sc2_turn1]
  refine wpAny_bind (wpAny_standAt (wpAny_bind (thn (turn n s hI) fun r sa ha => ?_)))
  cases r with
  | none => exact wpAny_pure ha
  | some u =>
    refine wpAny_bind (thn ha fun _ sb hb => wpAny_bind (thn hb fun _ sd hd => ?_))
    simp only [if_true]
    exact wpAny_bind (wpAny_bind (thn hd fun x se he => wpAny_bind (wpAny_standAt (wpAny_bind (thn he fun _ sf hf => wpAny_pure (wpAny_pure ⟨rfl, hf⟩))))))
theorem sc2_start1 (h0 : codeAny (model prog w) A (.compLoop (SC2 el t0 i0 t1 i1 sc ps) 1 it acc env) R s)
    (h : wpAny (model prog w) A (pyIter it) (fun it' s' => codeAny (model prog w) A (.compLoop (SC2 el t0 i0 t1 i1 sc ps) 1 it' acc env) R s') (NB prog w A env R) s) :
    codeAny (model prog w) A (.compStart (SC2 el t0 i0 t1 i1 sc ps) 1 it acc env) R s := by
  refine codeAny_of_tree ?_
  show wpAny _ _ ((compStart (SC2 el t0 i0 t1 i1 sc ps) 1 it acc env).onRaise (fun x => do noteFrame x env; standAt theWindowsPlace)) _ _ s
  refine wpAny_notedAt ?_
  unfold compStart
  show wpAny _ _ (ask >>= _) _ _ s
  refine wpAny_bind (wpAny_askSetting (wpAny_ite ?_))
  split
  · first
      | exact wpAny_bind (wpAny_pure (wpAny_pure (And.intro rfl h0)))
      | exact wpAny_pure (And.intro rfl h0)
  · first
      | exact wpAny_bind (wpAny_rule (wpAny_bind (wpAny_standAt (wpAny_bind (thn h fun it' s' h' => wpAny_pure (And.intro rfl h'))))))
      | (refine wpAny_bind (wpAny_rule ?_); show wpAny _ _ (standAt i1.pos >>= _) _ _ s; exact wpAny_bind (wpAny_standAt (wpAny_bind (thn h fun it' s' h' => wpAny_pure (And.intro rfl h')))))
end
section
variable {X : Cx}
/-- the reading: W, W1 the words of the two loops -/
def tSc2 (P : Program) (w : World) (wi : TI) (g : TG) (wj : TI) (gj : TG) (te : TE) (vs us : List Nat) : TE := fun σ H Q => wi σ H fun J Ha => ∀ D, Ha D = none → ∃ W : Nat → Nat → Hp → Prop, (∃ m, W 0 m (upd Ha D (SetS P w D []))) ∧ ∀ i m H, W i m H →
  (J.stop i H ∧ Q (.ref D) H) ∨ (J.go i H ∧ ∃ Nx : Hp → Prop, (∀ H', Nx H' → ∃ m', m' < m ∧ W (i + 1) m' H') ∧ ∀ x H', J.yld i H x H' → g x (wipe σ vs) H' fun τ Hb => wipe τ vs = wipe σ vs ∧ wj τ Hb fun Jj Hc =>
    ∃ Wj : Nat → Nat → Hp → Prop, (∃ m, Wj 0 m Hc) ∧ ∀ j k H, Wj j k H → (Jj.stop j H ∧ Nx H) ∨ (Jj.go j H ∧ ∃ Ny : Hp → Prop, (∀ H', Ny H' → ∃ k', k' < k ∧ Wj (j + 1) k' H') ∧ ∀ x H', Jj.yld j H x H' → gj x (wipe τ us) H' fun υ Hd => wipe υ us = wipe τ us ∧
      te υ Hd fun y He => ∃ t L, y = .str t ∧ He D = some (SetS P w D L) ∧ L.length + 1 < scanBound ∧ ∀ L' : List Str, (∀ z, z ∈ L' ↔ z ∈ L ∨ z = t) → L'.Nodup → L'.length ≤ L.length + 1 → Ny (upd He D (SetS P w D L'))))
abbrev BX (X : Cx) (sc : Scope) (s : Shared) (H : Hp) (C : Addr) (cl : List (Str × Addr)) (fp : List Addr) : Cx := X.blk s H sc (compEnvC sc cl C X.env) fp
theorem pe_sc2 {el t0 i0 t1 i1 : Expr} {sc : Scope} {own : List (Str × Nat)} {us : List Nat} {ps : Pos} {wi wj : TI} {g gj : TG} {te : TE} (hc : X.calm = true) (hN : X.N.Nodup) (hi : PI X t0 i0 wi) (ok : BlkOk X.N X.env.scope sc own) (hv : ∀ i ∈ us, i ∈ own.map (·.2))
    (hg : ∀ s H C cl fp, PG (BX X sc s H C cl fp) t0 g) (hj : ∀ s H C cl fp, PI (BX X sc s H C cl fp) t1 i1 wj) (hgj : ∀ s H C cl fp, PG (BX X sc s H C cl fp) t1 gj) (he : ∀ s H C cl fp, PE (BX X sc s H C cl fp) el te)
    (hs : ∀ x, foldedSetIterable i0 X.env x = pure x := by intro _; rfl) (hs1 : ∀ env x, foldedSetIterable i1 env x = pure x := by intro _ _; rfl) :
    PE X (.SetComp el [⟨t0, i0, [], 0⟩, ⟨t1, i1, [], 0⟩] sc ps) (tSc2 X.prog X.w wi g wj gj te (own.map (·.2)) us) := by
  refine ⟨fun pins s σ H Q I h => ?_⟩
  rw [PpSet.eval_SetComp]
  have hfree : ∀ y ∈ sc.names, y.2 = .free → ∃ c, X.env.cells.lookup y.1 = some c := fun y hy e => (ok.free y hy e).elim (fun k => I.ok.has _ (.inl k)) fun k => I.ok.has _ (.inr k)
  refine wpAny_comprehension_free (use := none) rfl hs (closure_ok hfree) ok.kind (fun y hy e => by rw [ok.uniq y hy, e]) (thn (hi.run pins s σ H _ I h) fun xv sa hx => thn hx fun itv sb hb => ?_)
  obtain ⟨it, fp, tn, J, Hb, e, Ib, T, stb, fb, q⟩ := hb
  subst e
  refine PpSet.newSet_ok (newEnv_comp ?_)
  generalize hD : sb.heap.objs.size = D
  have hDn : Hb D = none := Ib.hok.fresh (Nat.le_of_eq hD)
  obtain ⟨W, ⟨m0, w0⟩, turn⟩ := q D hDn
  generalize hsd : ({ sb with heap := sb.heap.push { cls := .type "set", dict := none, data := .set #[] 0 (.fresh 0 0 (!X.w.params.followText "set-order")) } } : Shared) = sd
  have hd : sd.heap = sb.heap.push { cls := .type "set", dict := none, data := .set #[] 0 (.fresh 0 0 (!X.w.params.followText "set-order")) } := by rw [← hsd]
  have up : ∀ b o, sb.heap.get? b = some o → sd.heap.get? b = some o := fun b o e => by rw [hd]; exact Heap.get?_push_of_some _ e
  have Id : Inv X pins σ (upd Hb D (SetS X.prog X.w D [])) sd := by
    rw [← hsd]
    refine Ib.laid (t' := sb.toks) (fun b o e => Heap.get?_push_of_some _ e) (Nat.le_of_eq hD) (setS_ok (D := (#[], 0, .fresh 0 0 (!X.w.params.followText "set-order"))) ?_ pl_fresh)
    rw [← hD]
    exact Heap.get?_push_size _ rfl
  have ltb : ∀ b ∈ fp, b < sb.heap.objs.size := fun b hb => let ⟨_, e, _⟩ := T.obj _ _ stb b hb; Heap.lt_size e
  have fd : ∀ b ∈ fp, FpOk X pins (upd Hb D (SetS X.prog X.w D [])) b ∧ b < sd.heap.objs.size := fun b hb => by
    have hlt := ltb b hb
    refine ⟨⟨?_, (fb b hb).2⟩, by rw [hd, Heap.size_push]; exact Nat.lt_succ_of_lt hlt⟩
    rw [upd_ne (by rw [← hD]; exact Nat.ne_of_lt hlt)]
    exact (fb b hb).1
  have std := T.keep _ _ _ stb fun b _ o e => up b o e
  have Ie := block_start Id ok hN fd
  have pg := hg sd (upd Hb D (SetS X.prog X.w D [])) sd.heap.objs.size (cellsFrom (sd.heap.objs.size + 1) sc.names (cloFrom X.env.cells sc.names [])) fp
  have pj := hj sd (upd Hb D (SetS X.prog X.w D [])) sd.heap.objs.size (cellsFrom (sd.heap.objs.size + 1) sc.names (cloFrom X.env.cells sc.names [])) fp
  have pgj := hgj sd (upd Hb D (SetS X.prog X.w D [])) sd.heap.objs.size (cellsFrom (sd.heap.objs.size + 1) sc.names (cloFrom X.env.cells sc.names [])) fp
  have pe := he sd (upd Hb D (SetS X.prog X.w D [])) sd.heap.objs.size (cellsFrom (sd.heap.objs.size + 1) sc.names (cloFrom X.env.cells sc.names [])) fp
  have hRR : ∀ s' m H', Inv X pins σ H' s' → Q (.ref D) H' → s'.heap.Ns sd.heap.objs.size m → FpOk X pins H' sd.heap.objs.size → compPost (model X.prog X.w) X.A X.xe none (EP X pins σ Q) (.ref D) sd.heap.objs.size (.ok .next) s' := fun s' m H' I' q' hn f => ⟨m, hn, fun h'' sb' => by
    obtain ⟨f0, f1, f2, f3, f4, f5⟩ := f
    exact ⟨.ref D, H', I'.turned (t' := s'.toks) (fun b o hb e => (sb'.2 b hb).trans e) f0 f1 f3 f4 f5, rfl, q'⟩⟩
  show codeAny _ _ (.compStart (SC2 el t0 i0 t1 i1 sc ps) 0 (.ref it) (.ref D) (compEnvC sc (cellsFrom (sd.heap.objs.size + 1) sc.names (cloFrom X.env.cells sc.names [])) sd.heap.objs.size X.env)) (compPost (model X.prog X.w) X.A X.xe none (EP X pins σ Q) (.ref D) sd.heap.objs.size) { sd with heap := pushCells (sd.heap.push { cls := .type "dict", data := .dict #[] }) sc.names }
  have nfp : ∀ b ∈ fp, (upd Hb D (SetS X.prog X.w D [])) b = none := fun b hb => (fd b hb).1.1
  dsimp only [BX] at pg pj pgj pe
  generalize hce : compEnvC sc (cellsFrom (sd.heap.objs.size + 1) sc.names (cloFrom X.env.cells sc.names [])) sd.heap.objs.size X.env = ce at Ie pg pj pgj pe ⊢
  have cL : ce.locals = sd.heap.objs.size := by subst hce; rfl
  generalize hHd : upd Hb D (SetS X.prog X.w D []) = Hd at Id Ie pg pj pgj pe w0 nfp fd
  generalize hse : ({ sd with heap := pushCells (sd.heap.push { cls := .type "dict", data := .dict #[] }) sc.names } : Shared) = se at Ie ⊢
  have ste : tn 0 se.heap := T.keep _ _ _ std fun b _ o e => by rw [← hse]; exact pushCells_keeps _ _ _ _ (Heap.get?_push_of_some _ e)
  have stat : ∀ {σ' : L2.St} {H' : Hp} {s' : Shared}, Inv (X.blk sd Hd sc ce fp) [] σ' H' s' → (∀ b ∈ fp, H' b = none) → ∀ b ∈ fp, FpOk (X.blk sd Hd sc ce fp) [] H' b := fun {σ' H' s'} I' hn b hb =>
    ⟨hn b hb, (I'.ok.exf b hb).1, I'.ok.exfs b hb, .inl hb, fun x c e => (I'.ok.exf b hb).2 x c e, fun p hp => nomatch (show p ∈ ([] : List (Addr × Obj)) from hp)⟩
  have loop : codeAny (model X.prog X.w) X.A (.compLoop (SC2 el t0 i0 t1 i1 sc ps) 0 (.ref it) (.ref D) ce) (compPost (model X.prog X.w) X.A X.xe none (EP X pins σ Q) (.ref D) sd.heap.objs.size) se := by
    refine sc2_loop0 (hs1 ce) (fun n s' => ∃ i H', Inv (X.blk sd Hd sc ce fp) [] (wipe σ (own.map (·.2))) H' s' ∧ tn i s'.heap ∧ (∀ b ∈ fp, H' b = none) ∧ W i n H') ?_ m0 ⟨0, Hd, Ie, ste, nfp, w0⟩
    rintro n s5 ⟨i, H5, I5, st5, n5, w5⟩
    rcases turn i n H5 w5 with ⟨stop, qq⟩ | ⟨go, Nx, hNx, step⟩
    · refine thnF (T.done (X.blk sd Hd sc ce fp) rfl rfl rfl hc i [] s5 _ H5 (fun _ _ => False) I5 (stat I5 n5) st5 stop) fun r s6 z6 => ?_
      obtain ⟨rfl, I6⟩ := z6
      have I7 : Inv X pins σ H5 s6 := Id.call' (ch := fp) I6.os I6.base I6.hok I6.bare fun b hb => let z := (fd b hb).1.2; ⟨z.2.2.1, z.1, z.2.2.2.1, z.2.2.2.2⟩
      have nC : H5 ce.locals = none := I6.free
      obtain ⟨m, hn, _⟩ := I6.loc
      have hn : s6.heap.Ns ce.locals m := hn
      rw [cL] at hn nC
      exact hRR s6 m H5 I7 qq hn (Id.fpOk (Nat.le_refl _) nC)
    · refine thnF (T.item (X.blk sd Hd sc ce fp) rfl rfl rfl hc i [] s5 _ H5 (fun _ _ => False) I5 (stat I5 n5) st5 go) fun r s6 z6 => ?_
      obtain ⟨u, rfl, h6⟩ := z6
      refine thnF h6 fun _ s7 z7 => ?_
      obtain ⟨x, H7, I7, r7, y7, st7, n7⟩ := z7
      have I7' := I7.pinned (stat I7 n7) (T.obj _ _ st7)
      refine thnF (pg.run _ s7 _ H7 x u _ I7' r7 (step x H7 y7)) fun _ s8 z8 => ?_
      obtain ⟨τ, H8, I8, hw8, q8⟩ := z8
      -- from the inner loop's end to the outer one's next turn
      have fin : ∀ {υ : L2.St} {s' : Shared} {H' : Hp}, Inv (X.blk sd Hd sc ce fp) ([] ++ pinsAt fp s7.heap) υ H' s' → (wipe σ (own.map (·.2))).length = υ.length → (∀ (j : Nat) v, (wipe σ (own.map (·.2)))[j]? = some (some v) → υ[j]? = some (some v)) → Nx H' →
          ∃ m, m < n ∧ ∃ i H', Inv (X.blk sd Hd sc ce fp) [] (wipe σ (own.map (·.2))) H' s' ∧ tn i s'.heap ∧ (∀ b ∈ fp, H' b = none) ∧ W i m H' := fun {υ s' H'} I' hl hk nx => by
        obtain ⟨m', hm, w'⟩ := hNx H' nx
        have pin' : ∀ b ∈ fp, ∀ o, s7.heap.get? b = some o → s'.heap.get? b = some o ∧ H' b = none := fun b hb o e => by
          have z := I'.pin (b, o) (List.mem_append_right _ (List.mem_append_right _ (mem_pinsAt hb e)))
          exact ⟨z.1, z.2.1⟩
        refine ⟨m', hm, i + 1, H', (I'.unpinned (pins := [])).weak hl hk, T.keep _ _ _ st7 fun b hb o e => (pin' b hb o e).1, fun b hb => ?_, w'⟩
        obtain ⟨o, e, _⟩ := T.obj _ _ st7 b hb
        exact (pin' b hb o e).2
      have hl8 : (wipe σ (own.map (·.2))).length = τ.length := by rw [← hw8, wipe_length]
      have hk9 : ∀ (j : Nat) v, (wipe σ (own.map (·.2)))[j]? = some (some v) → (wipe τ us)[j]? = some (some v) := fun j v e => by
        rw [← hw8] at e
        obtain ⟨e1, e2⟩ := wipe_some e
        rw [wipe_out fun z => e2 (hv j z), e1]
      refine thnF (pj.run _ s8 τ H8 _ I8 q8) fun xv s10 hx => thnF hx fun itv s11 z11 => ?_
      obtain ⟨it1, fp1, tn1, Jj, H11, rfl, I11, T1, st11, f11, Wj, ⟨m1, w1⟩, turn1⟩ := z11
      have stat1 : ∀ {H' : Hp}, (∀ b ∈ fp1, H' b = none) → ∀ b ∈ fp1, FpOk (X.blk sd Hd sc ce fp) ([] ++ pinsAt fp s7.heap) H' b := fun hn b hb => ⟨hn b hb, (f11 b hb).2⟩
      have loop1 : codeAny (model X.prog X.w) X.A (.compLoop (SC2 el t0 i0 t1 i1 sc ps) 1 (.ref it1) (.ref D) ce) (fun r s' => match r with
          | .ok _ => ∃ m, m < n ∧ ∃ i H', Inv (X.blk sd Hd sc ce fp) [] (wipe σ (own.map (·.2))) H' s' ∧ tn i s'.heap ∧ (∀ b ∈ fp, H' b = none) ∧ W i m H'
          | .error _ => False) s11 := by
        refine sc2_loop1 (fun k s' => ∃ j H', Inv (X.blk sd Hd sc ce fp) ([] ++ pinsAt fp s7.heap) (wipe τ us) H' s' ∧ tn1 j s'.heap ∧ (∀ b ∈ fp1, H' b = none) ∧ Wj j k H') ?_ m1 ⟨0, H11, I11.weak (wipe_length _ _) (fun j v e => (wipe_some e).1), st11, fun b hb => (f11 b hb).1, w1⟩
        rintro k s12 ⟨j, H12, I12, st12, n12, w12⟩
        rcases turn1 j k H12 w12 with ⟨stop1, nx1⟩ | ⟨go1, Ny, hNy, step1⟩
        · refine thnF (T1.done (X.blk sd Hd sc ce fp) rfl rfl rfl hc j _ s12 (wipe τ us) H12 (fun _ _ => False) I12 (stat1 n12) st12 stop1) fun r s13 z13 => ?_
          obtain ⟨rfl, I13⟩ := z13
          exact fin I13 (hl8.trans (wipe_length τ us).symm) hk9 nx1
        · refine thnF (T1.item (X.blk sd Hd sc ce fp) rfl rfl rfl hc j _ s12 (wipe τ us) H12 (fun _ _ => False) I12 (stat1 n12) st12 go1) fun r s13 z13 => ?_
          obtain ⟨u1, rfl, h13⟩ := z13
          refine thnF h13 fun _ s14 z14 => ?_
          obtain ⟨x1, H14, I14, r14, y14, st14, n14⟩ := z14
          have I14' := I14.pinned (stat1 n14) (T1.obj _ _ st14)
          refine thnF (pgj.run _ s14 (wipe τ us) H14 x1 u1 _ I14' r14 (step1 x1 H14 y14)) fun _ s15 z15 => ?_
          obtain ⟨υ, H15, I15, hw15, q15⟩ := z15
          have fin1 : ∀ {s' : Shared} {H' : Hp}, Inv (X.blk sd Hd sc ce fp) (([] ++ pinsAt fp s7.heap) ++ pinsAt fp1 s14.heap) υ H' s' → Ny H' → ∃ m, m < k ∧ ∃ j H', Inv (X.blk sd Hd sc ce fp) ([] ++ pinsAt fp s7.heap) (wipe τ us) H' s' ∧ tn1 j s'.heap ∧ (∀ b ∈ fp1, H' b = none) ∧ Wj j m H' := fun {s' H'} I' nx => by
            obtain ⟨m', hm, w'⟩ := hNy H' nx
            have pin' : ∀ b ∈ fp1, ∀ o, s14.heap.get? b = some o → s'.heap.get? b = some o ∧ H' b = none := fun b hb o e => by
              have z := I'.pin (b, o) (List.mem_append_right _ (List.mem_append_right _ (mem_pinsAt hb e)))
              exact ⟨z.1, z.2.1⟩
            refine ⟨m', hm, j + 1, H', I'.unpinned.weak (by rw [← hw15, wipe_length]) (fun j v e => by rw [← hw15] at e; exact (wipe_some e).1), T1.keep _ _ _ st14 fun b hb o e => (pin' b hb o e).1, fun b hb => ?_, w'⟩
            obtain ⟨o, e, _⟩ := T1.obj _ _ st14 b hb
            exact (pin' b hb o e).2
          refine thnF (pe.run _ s15 υ H15 _ I15 q15) fun z s17 z17 => ?_
          obtain ⟨yv, H17, I17, r17, t, L, rfl, hD17, hz17, nx⟩ := z17
          exact addS_ok (X := X.blk sd Hd sc ce fp) I17 hD17 hz17 r17 fun s18 L' hL1 hL2 hL3 I18 => fin1 I18 (nx L' hL1 hL2 hL3)
      exact sc2_start1 loop1 (T1.self X.A 0 _ _ _ st11 loop1)
  exact PpSet.codeAny_compStart_set loop (T.self X.A 0 _ _ _ ste loop)
end
end K8
end

section
set_option Elab.async false
set_option linter.all false
set_option maxRecDepth 100000
set_option maxHeartbeats 4000000
/-! K81: {e for t in it for u in it1} over data, sorted. -/
namespace K8
open PySem PySem.Spec PyProof.Rows L2
/-- no text twice, the last kept -/
def dd : List Str → List Str
  | [] => []
  | x :: xs => if x ∈ xs then dd xs else x :: dd xs
theorem dd_mem {z : Str} : ∀ {xs : List Str}, z ∈ dd xs ↔ z ∈ xs
  | [] => Iff.rfl
  | x :: xs => by
    unfold dd
    by_cases h : x ∈ xs
    · rw [if_pos h, dd_mem]
      constructor
      · exact fun q => List.mem_cons_of_mem _ q
      · intro q
        rcases List.mem_cons.mp q with e | q
        · rw [e]; exact h
        · exact q
    · rw [if_neg h, List.mem_cons, List.mem_cons, dd_mem]
theorem dd_nodup : ∀ xs : List Str, (dd xs).Nodup
  | [] => List.nodup_nil
  | x :: xs => by
    unfold dd
    by_cases h : x ∈ xs
    · rw [if_pos h]; exact dd_nodup xs
    · rw [if_neg h]; exact List.nodup_cons.mpr ⟨fun q => h (dd_mem.mp q), dd_nodup xs⟩
theorem dd_of {L xs : List Str} (hn : L.Nodup) (h : ∀ z, z ∈ L ↔ z ∈ xs) : L.Perm (dd xs) :=
  (List.perm_ext_iff_of_nodup hn (dd_nodup xs)).mpr fun z => (h z).trans dd_mem.symm
theorem dd_len (xs : List Str) : (dd xs).length ≤ xs.length := by
  induction xs with
  | nil => exact Nat.le_refl _
  | cons x xs ih =>
    unfold dd
    by_cases h : x ∈ xs
    · rw [if_pos h]; exact Nat.le_succ_of_le ih
    · rw [if_neg h]; exact Nat.succ_le_succ ih
def EvSet (P : Program) (w : World) (G : Hp → Prop) (te : TE) (σ : L2.St) (M : List Str) : Prop := ∀ H1, G H1 → ∀ Q : VK, (∀ p L H2, H1 p = none → Same H1 H2 → H2 p = some (SetS P w p L) → L.Nodup → (∀ z, z ∈ L ↔ z ∈ M) → Q (.ref p) H2) → te σ H1 Q
theorem Ts.set {P : Program} {w : World} {H : Hp} {D : Addr} {L : List Str} {o : HO} (h : H D = some (SetS P w D L)) : Ts H (upd H D o) := Ts.ext h
theorem es_sc2 {P : Program} {w : World} {α β : Type} {G : Hp → Prop} {σ : L2.St} {wi wi1 : TI} {g g1 : TG} {te : TE} {vs vs1 : List Nat} {ds : List α} {mk : α → Dt} (es : α → List β) {mk1 : β → Dt} (f : β → Str) (hi : EvI G wi σ (ds.map mk)) (hl : (ds.flatMap es).length ≤ 1000)
    (hs : ∀ H1, G H1 → ∀ d ∈ ds, ∀ x H, Same H1 H → Tp H x (mk d) → EvG g (wipe σ vs) x H fun σ2 H2 => Same H H2 ∧ wipe σ2 vs = wipe σ vs ∧ EvJ (Same H2) wi1 σ2 ((es d).map mk1) ∧
      ∀ e ∈ es d, ∀ y H3, Ts H2 H3 → Tp H3 y (mk1 e) → EvG g1 (wipe σ2 vs1) y H3 fun σ3 H5 => Same H3 H5 ∧ wipe σ3 vs1 = wipe σ2 vs1 ∧ EvD (Same H5) te σ3 (.text (f e))) :
    EvSet P w G (tSc2 P w wi g wi1 g1 te vs vs1) σ (ds.flatMap fun d => (es d).map f) := fun H1 gg Q hQ => by
  refine hi H1 gg _ fun J H2 s2 w0 D hD => ?_
  have hD1 : H1 D = none := s2.free hD
  have hcnt : ∀ i, ((ds.take i).flatMap es).length ≤ 1000 := fun i => by
    refine Nat.le_trans ?_ hl
    rw [← List.take_append_drop i ds, List.flatMap_append, List.length_append, List.take_append_drop]
    exact Nat.le_add_right _ _
  refine ⟨fun i m H => m = ds.length - i ∧ i ≤ ds.length ∧ Same H2 H ∧ ∃ L, H D = some (SetS P w D L) ∧ L.length ≤ ((ds.take i).flatMap es).length ∧ L.Nodup ∧ ∀ z, z ∈ L ↔ z ∈ (ds.take i).flatMap fun d => (es d).map f, ⟨ds.length, by simp, Nat.zero_le _, same_D (Same.refl _) hD, [], by simp [upd], Nat.zero_le _, List.nodup_nil, fun z => by simp⟩, ?_⟩
  rintro i m H ⟨rfl, hle, s, L, hacc, hal, hnd, hmm⟩
  by_cases hlt : i < ds.length
  · obtain ⟨hgo, hy⟩ := (w0 H s).1 i (by rw [List.length_map]; exact hlt)
    refine .inr ⟨hgo, fun H => i + 1 ≤ ds.length ∧ Same H2 H ∧ ∃ L, H D = some (SetS P w D L) ∧ L.length ≤ ((ds.take (i + 1)).flatMap es).length ∧ L.Nodup ∧ ∀ z, z ∈ L ↔ z ∈ (ds.take (i + 1)).flatMap fun d => (es d).map f, fun H' hN => ⟨ds.length - (i + 1), by omega, rfl, hN⟩, fun x H' y => ?_⟩
    obtain ⟨s3, dd, hdd, td⟩ := hy x H' y
    obtain ⟨d, hd, hdm, rfl⟩ := at_map hdd
    have s13 := (s2.trans s).trans s3
    have tk : ∀ {γ : Type} (h : α → List γ), (ds.take (i + 1)).flatMap h = (ds.take i).flatMap h ++ h d := fun h => by
      rw [List.take_add_one, hd, List.flatMap_append]
      simp
    refine hs H1 gg d hdm x H' s13 td _ fun σ2 H4 ⟨s4, hw, hi1, hs1⟩ => ⟨hw, ?_⟩
    refine hi1 H4 (Same.refl _) _ fun J1 H6 s6 w1 => ?_
    have sx : Same H H6 := (s3.trans s4).trans s6
    have hacc6 : H6 D = some (SetS P w D L) := sx _ _ hacc
    refine ⟨fun j k H => k = (es d).length - j ∧ j ≤ (es d).length ∧ Ts H6 H ∧ Same H2 H ∧ ∃ L, H D = some (SetS P w D L) ∧ L.length ≤ ((ds.take i).flatMap es).length + j ∧ L.Nodup ∧ ∀ z, z ∈ L ↔ z ∈ ((ds.take i).flatMap fun d => (es d).map f) ++ ((es d).take j).map f,
      ⟨(es d).length, by simp, Nat.zero_le _, Ts.of (Same.refl _), s.trans sx, L, hacc6, hal, hnd, by simpa using hmm⟩, ?_⟩
    rintro j k H7 ⟨rfl, hjl, t7, s7, L7, hacc7, hal7, hnd7, hmm7⟩
    by_cases hjt : j < (es d).length
    · obtain ⟨hgo1, hy1⟩ := (w1 H7 t7).1 j (by rw [List.length_map]; exact hjt)
      refine .inr ⟨hgo1, fun H => j + 1 ≤ (es d).length ∧ Ts H6 H ∧ Same H2 H ∧ ∃ L, H D = some (SetS P w D L) ∧ L.length ≤ ((ds.take i).flatMap es).length + (j + 1) ∧ L.Nodup ∧ ∀ z, z ∈ L ↔ z ∈ ((ds.take i).flatMap fun d => (es d).map f) ++ ((es d).take (j + 1)).map f, fun H' hN => ⟨(es d).length - (j + 1), by omega, rfl, hN⟩, fun y H8 yy => ?_⟩
      obtain ⟨s8, ee, hee, te8⟩ := hy1 y H8 yy
      obtain ⟨e, he, hem, rfl⟩ := at_map hee
      refine hs1 e hem y H8 (((Ts.of s6).trans t7).trans (Ts.of s8)) te8 _ fun σ3 H9 ⟨s9, hw1, he1⟩ => ⟨hw1, he1 H9 (Same.refl _) _ fun v H10 s10 t10 => ?_⟩
      have sy : Same H7 H10 := (s8.trans s9).trans s10
      have hacc10 : H10 D = some (SetS P w D L7) := sy _ _ hacc7
      have hb : ((ds.take i).flatMap es).length + (es d).length ≤ 1000 := by
        have h1 := hcnt (i + 1)
        rw [tk, List.length_append] at h1
        exact h1
      refine ⟨f e, L7, t10.txt_inv, hacc10, Nat.lt_of_lt_of_le (show L7.length + 1 < 1002 by omega) (by decide), fun L' hm' hn' hl' => ?_⟩
      refine ⟨hjt, t7.trans ((Ts.of sy).trans (Ts.set hacc10)), same_D (s7.trans sy) hD, L', by simp [upd], by omega, hn', fun z => ?_⟩
      rw [hm', hmm7, List.take_add_one, he]
      simp only [List.mem_append, List.map_append, Option.toList_some, List.map_cons, List.map_nil, List.mem_singleton]
      constructor
      · rintro ((h | h) | h)
        · exact .inl h
        · exact .inr (.inl h)
        · exact .inr (.inr h)
      · rintro (h | h | h)
        · exact .inl (.inl h)
        · exact .inl (.inr h)
        · exact .inr h
    · have e : j = (es d).length := by omega
      subst e
      refine .inl ⟨by have z := (w1 H7 t7).2; rw [List.length_map] at z; exact z, hlt, s7, L7, hacc7, by rw [tk, List.length_append]; exact hal7, hnd7, ?_⟩
      rw [tk]
      rw [List.take_length] at hmm7
      exact hmm7
  · have e : i = ds.length := by omega
    subst e
    rw [List.take_length] at hal hmm
    exact .inl ⟨by have z := (w0 H s).2; rw [List.length_map] at z; exact z, hQ D L H hD1 (s2.trans s) hacc hnd hmm⟩
/-- sorted of such a set -/
theorem el_sortSet {P : Program} {w : World} {G : Hp → Prop} {te : TE} {σ : L2.St} {M : List Str} (h : EvSet P w G te σ M) (hl : M.length ≤ 1000) : EvL G (tCB (rSortSet P w) (tCons te tNil)) σ ((srtS (dd M)).map NestedKey.text) := fun H1 g Q q =>
  h H1 g _ fun p L H2 hn s e hnd hm => by
    have pm : L.Perm (dd M) := dd_of hnd hm
    have e1 : srtS L = srtS (dd M) := srtS_can pm
    refine ⟨p, L, rfl, e, by rw [pm.length_eq]; exact Nat.le_trans (dd_len M) hl, fun q' hq' => ?_⟩
    rw [e1]
    exact q q' _ _ (s.free hq') (s.trans (same_new hq')) (by simp [upd]) (TpA.ofTexts _)
end K8
end

section
set_option Elab.async false
set_option linter.all false
set_option maxRecDepth 100000
set_option maxHeartbeats 4000000
namespace K8
open PySem PySem.Spec PyProof.Rows L2
abbrev nWordOf : List Str := ["shelf", "kind", "many"]
theorem sc_WordOf : FnScope nWordOf ["shelf"] (defScope (K81.top 4)) := ⟨rfl, rfl, rfl, by decide +kernel, rfl, by decide +kernel, by decide +kernel⟩
/-- a shelf: pairs of a kind and a number -/
abbrev Sh := List (Str × Int)
def shD (s : Sh) : Dt := .tup (s.map fun p => .tup [.text p.1, .num p.2])
def spWordOf : Sp := fun vs H Q _ => ∃ (v : V) (s : Sh), vs = [v] ∧ Tp H v (shD s) ∧ s.length ≤ 1000 ∧ ∀ u H', Same H H' → Wd H' u (s.map (·.1)) → Q u H'
section
variable {P : Program} {w : World} {K : PySem.W.Frag} {mg : Str → Option Value} {base : Heap}
theorem cal_WordOf (B : Bi mg) (D : DfE K mg "word_of" 4) : Cal P w K mg base "word_of" 1 ["shelf"] spWordOf := by
  obtain ⟨f, fd, D⟩ := D
  refine D.cal (D.F.ok sc_WordOf (fun vs H Q E h => ?_) fun cdv A outer s H vs Q E hr h => ⟨_, PSs.nox
    (pss_one (ps_ret (pe_callTy call_tuple_ofF rfl B.tuple boot_tuple (pa_cons (pe_lc (own := [("kind", 1), ("many", 2)]) (g := gTup _ 2 (gCons (gName 1) (gCons (gName 2) gNil))) (tt := tYes) (by rfl) sc_WordOf.nd (pi_tup (pv 0)) (blkOk_by (own := [("kind", 1), ("many", 2)]) (N := nWordOf) (sc := defScope (K81.top 4)) (by decide +kernel))
      (fun _ _ _ _ _ => pg_tup rfl (pgs_cons (pg_name (i := 1) sc_WordOf.nd rfl (Or.inl rfl)) (pgs_cons (pg_name (i := 2) sc_WordOf.nd rfl (Or.inl rfl)) pgs_nil))) (fun _ _ _ _ _ => pts_nil) (fun _ _ _ _ _ => pv 1)) pa_nil)))), ?_⟩)
    (fun kV doc pm an cdv ct us hl => match us, hl with | [_], _ => rfl)
  · obtain ⟨v, sh, rfl, _⟩ := h; rfl
  · obtain ⟨v, sh, rfl, hv, hl, hq⟩ := h
    refine q_retR (R := fun u H' => Wd H' u (sh.map (·.1))) (G := fun H' => Same H H') (er_word (EvL.to (el_lcM (fun q : Str × Int => .text q.1) (ei_tup (ed_var rfl fun H' s => hv.up s)).ei (by omega) ?_) (by rw [List.map_map]; rfl))) (Same.refl H) fun u H' s t => hq u H' s t
    exact fun H1 g1 q hq x Hx s1 tx => eg_pair tx fun u v tu tv => ⟨Same.refl _, rfl, et_yes, ed_var rfl fun H' s => tu.up s⟩
end
end K8
end

section
set_option Elab.async false
set_option linter.all false
set_option maxRecDepth 100000
set_option maxHeartbeats 4000000
/-! K81: kinds_in, many_of, look_alike. -/
namespace K8
open PySem PySem.Spec PyProof.Rows L2
def stD (S : List Sh) : Dt := .tup (S.map shD)
def bkD (p : Str × Int) : Dt := .tup [.text p.1, .num p.2]
theorem stD_eq (S : List Sh) : stD S = .tup (S.map fun s => .tup (s.map bkD)) := rfl
def kindsOf (S : List Sh) : List Str := srtS (dd (S.flatMap fun s => s.map (·.1)))
def manyOf (S : List Sh) (k : Str) : Int := (S.flatMap fun s => (s.filter fun p => decide (p.1 = k)).map (·.2)).sum
/-- few books -/
def Few (S : List Sh) : Prop := S.length ≤ 100 ∧ (S.flatMap fun s => s).length ≤ 1000
theorem ts_cons {vs : List V} {H H' : Hp} {v : V} {d : Dt} (t : Ts H H') (h : Tp H v d) : Tp H' v d := h.mono t
abbrev nKindsIn : List Str := ["standing", "shelf", "kind", "many"]
theorem sc_KindsIn : FnScope nKindsIn ["standing"] (defScope (K81.top 5)) := ⟨rfl, rfl, rfl, by decide +kernel, rfl, by decide +kernel, by decide +kernel⟩
def spKindsIn : Sp := fun vs H Q _ => ∃ (v : V) (S : List Sh), vs = [v] ∧ Tp H v (stD S) ∧ Few S ∧ ∀ p us H', H p = none → Same H H' → H' p = some (.lst us) → TpA H' us ((kindsOf S).map NestedKey.text) → Q (.ref p) H'
abbrev nManyOf : List Str := ["standing", "kind", "shelf", "other", "many"]
theorem sc_ManyOf : FnScope nManyOf ["standing", "kind"] (defScope (K81.top 6)) := ⟨rfl, rfl, rfl, by decide +kernel, rfl, by decide +kernel, by decide +kernel⟩
def spManyOf : Sp := fun vs H Q _ => ∃ (v : V) (S : List Sh) (k : Str), vs = [v, .str k] ∧ Tp H v (stD S) ∧ Few S ∧ ∀ H', Same H H' → Q (.int (manyOf S k)) H'
section
variable {P : Program} {w : World} {K : PySem.W.Frag} {mg : Str → Option Value} {base : Heap}
theorem cal_KindsIn (B : Bi mg) (D : DfE K mg "kinds_in" 5) : Cal P w K mg base "kinds_in" 1 ["standing"] spKindsIn := by
  obtain ⟨f, fd, D⟩ := D
  have nd := sc_KindsIn.nd
  refine D.cal (D.F.ok sc_KindsIn (fun vs H Q E h => ?_) fun cdv A outer s H vs Q E hr h => ⟨_, PSs.nox
    ((pss_one (ps_ret (pe_callB (cr_sortSet rfl hr.units) rfl B.sorted boot_sorted (pa_cons (pe_sc2 (us := [2, 3]) (wi := iTup K _) (g := gName 1) (wj := iTup K (tVar 1)) (gj := gTup K 2 (gCons (gName 2) (gCons (gName 3) gNil))) (te := tVar 2) rfl nd (pi_tup (pv 0)) (blkOk_by (own := [("shelf", 1), ("kind", 2), ("many", 3)]) (by kernel_rfl)) (by decide) (fun _ _ _ _ _ => (pg_name (i := 1) nd rfl (Or.inl rfl))) (fun _ _ _ _ _ => (pi_tup (pv 1))) (fun _ _ _ _ _ => (pg_tup rfl (pgs_cons (pg_name (i := 2) nd rfl (Or.inl rfl)) (pgs_cons (pg_name (i := 3) nd rfl (Or.inl rfl)) pgs_nil)))) (fun _ _ _ _ _ => pv 2)) pa_nil))))), ?_⟩)
    (fun kV doc pm an cdv ct us hl => match us, hl with | [_], _ => rfl)
  · obtain ⟨v, S, rfl, _⟩ := h; rfl
  · obtain ⟨v, S, rfl, hv, hl, hq⟩ := h
    refine q_retL (G := fun H' => Same H H') (el_sortSet (es_sc2 (fun s : Sh => s) (mk1 := bkD) (fun p : Str × Int => p.1) (ei_tup (ed_var rfl fun H' s => hv.up s)).ei hl.2 ?_) ?_) (Same.refl H) fun p us H' hn s e t => hq p us H' hn s e t
    · exact fun H1 g1 sh hs x Hx s1 tx => eg_name ⟨Same.refl _, rfl, ei_tup (ed_var rfl fun H' s => tx.up s), fun e he y H3 s3 ty => eg_pair ty fun u v tu tv => ⟨Same.refl _, rfl, ed_var rfl fun H' s => tu.up s⟩⟩
    · refine Nat.le_trans (Nat.le_of_eq ?_) hl.2
      simp [List.length_flatMap]
theorem cal_ManyOf (B : Bi mg) (D : DfE K mg "many_of" 6) : Cal P w K mg base "many_of" 1 ["standing", "kind"] spManyOf := by
  obtain ⟨f, fd, D⟩ := D
  have nd := sc_ManyOf.nd
  refine D.cal (D.F.ok sc_ManyOf (fun vs H Q E h => ?_) fun cdv A outer s H vs Q E hr h => ⟨_, PSs.nox
    ((pss_one (ps_ret (pe_callB (cr_sum rfl) rfl B.sum boot_sum (pa_cons (pe_lc2 (wi := (iTup K _)) (g := (gName 2)) (tt := tYes) (wi1 := (iTup K _)) (g1 := (gTup K 2 (gCons (gName 3) (gCons (gName 4) gNil)))) (tt1 := _) (te := _) (vs1 := [3, 4]) rfl nd (pi_tup (pv 0)) (blkOk_by (own := [("shelf", 2), ("other", 3), ("many", 4)]) (by kernel_rfl)) (by decide) (fun _ _ _ _ _ => (pg_name (i := 2) nd rfl (by first | exact Or.inl rfl | exact Or.inr rfl))) (fun _ _ _ _ _ => pts_nil) (fun _ _ _ _ _ => (pi_tup (pv 2))) (fun _ _ _ _ _ => (pg_tup rfl (pgs_cons (pg_name (i := 3) nd rfl (by first | exact Or.inl rfl | exact Or.inr rfl)) (pgs_cons (pg_name (i := 4) nd rfl (by first | exact Or.inl rfl | exact Or.inr rfl)) pgs_nil)))) (fun _ _ _ _ _ => (pts_one (pt_cmpR op_eq (pv 3) (pv 1) (nomark _)))) (fun _ _ _ _ _ => (pv 4))) pa_nil))))), ?_⟩)
    (fun kV doc pm an cdv ct us hl => match us, hl with | [_, _], _ => rfl)
  · obtain ⟨v, S, k, rfl, _⟩ := h; rfl
  · obtain ⟨v, S, k, rfl, hv, hl, hq⟩ := h
    refine q_retD (G := fun H' => Same H H') (ed_sumL (EvL.to (el_lc2 (fun s : Sh => s) (mk1 := bkD) (fun p : Str × Int => decide (p.1 = k)) (fun p => .num p.2) (ei_tup (ed_var rfl fun H' s => hv.up s)).ei (Nat.le_trans hl.2 (by decide)) ?_) ?_)) (Same.refl H) fun v H' s t => by
      cases t; exact hq H' s
    · exact fun H1 g1 sh hs x Hx s1 tx => eg_name ⟨Same.refl _, rfl, et_yes, ei_tup (ed_var rfl fun H' s => tx.up s), fun e he y H3 s3 ty => eg_pair ty fun u v tu tv => ⟨Same.refl _, rfl, et_cmp (ed_var rfl fun H' s => tu.up s) (ed_var rfl fun H' _ => .txt k) rb_eqS, fun _ => ed_var rfl fun H' s => tv.up s⟩⟩
    · rw [List.map_flatMap]
      simp [List.map_map, Function.comp_def]
end
end K8
end

section
set_option Elab.async false
set_option linter.all false
set_option maxRecDepth 100000
set_option maxHeartbeats 4000000
/-! K81: ways_on. -/
namespace K8
open PySem PySem.Spec PyProof.Rows L2
abbrev WW := List Str × List Str
abbrev KE := KM.Key Str × List Str
abbrev txD (ks : List Str) : Dt := .tup (ks.map NestedKey.text)
def hereD (e : KE) : Dt := .tup [.tup [.num (e.1.1.1 : Nat), .num (e.1.1.2 : Nat)], txD e.1.2, txD e.2]
/-- a pair of words -/
def Ww (H : Hp) (v : V) (w : WW) : Prop := ∃ b v0 v1, v = .ref b ∧ Rd H b (.tup [v0, v1]) ∧ Wd H v0 w.1 ∧ Wd H v1 w.2
theorem Ww.up {H H' : Hp} {v : V} {w : WW} (h : Ww H v w) (s : Same H H') : Ww H' v w := let ⟨b, v0, v1, e, r, a, c⟩ := h; ⟨b, v0, v1, e, rd_up s r, a.up s, c.up s⟩
theorem Ww.fs {H H' : Hp} {v : V} {w : WW} (h : Ww H v w) (t : Ts H H') (s : Fs H H') : Ww H' v w := let ⟨b, v0, v1, e, r, a, c⟩ := h; ⟨b, v0, v1, e, t _ _ r, a.fs s, c.fs s⟩
def waysOn (w : WW) (heavy : List Str) (e : KE) : List KE := (heavy.filter fun k => decide (KM.MayK w e.1 k)).map fun k => (KM.stepK srtS w e.1 k, e.2 ++ [k])
section
variable {G : Hp → Prop} {te tk ta tw : TE} {σ : L2.St} {K : PySem.W.Frag} {w : WW}
theorem er_ww0 (h : EvR G te σ fun v H => Ww H v w) : EvR G (tOp (rIxT K) te (tC (.int 0))) σ fun v H => Wd H v w.1 := fun H1 g Q q =>
  h H1 g _ fun v H2 s ⟨b, v0, v1, e, r, a, c⟩ => by
    subst e
    exact ⟨b, [v0, v1], 0, v0, rfl, rfl, .inl r, rfl, q v0 H2 s a⟩
theorem er_ww1 (h : EvR G te σ fun v H => Ww H v w) : EvR G (tOp (rIxT K) te (tC (.int 1))) σ fun v H => Wd H v w.2 := fun H1 g Q q =>
  h H1 g _ fun v H2 s ⟨b, v0, v1, e, r, a, c⟩ => by
    subst e
    exact ⟨b, [v0, v1], 1, v1, rfl, rfl, .inl r, rfl, q v1 H2 s c⟩
theorem cutV_from (xs : List V) (k : Nat) : cutV xs (some (k : Int)) none = xs.drop k := by
  show (xs.drop (HT.sIx xs.length 0 (some (k : Int)))).take (HT.sIx xs.length xs.length none - HT.sIx xs.length 0 (some (k : Int))) = xs.drop k
  rw [sIx_nat]
  show (xs.drop (min k xs.length)).take (xs.length - min k xs.length) = xs.drop k
  by_cases h : k ≤ xs.length
  · rw [Nat.min_eq_left h]
    exact List.take_of_length_le (by rw [List.length_drop]; exact Nat.le_refl _)
  · rw [Nat.min_eq_right (by omega), List.drop_length, List.drop_of_length_le (by omega)]
    simp
/-- word[at:] -/
theorem er_sliceW [Stb G] {ks : List Str} {n : Nat} (h : EvR G tw σ fun v H => Wd H v ks) (ha : EvD G ta σ (.num (n : Int))) : EvR G (tSl rSlF tw (tPart ta) tNoPart) σ fun v H => Wd H v (ks.drop n) := fun H1 g Q q =>
  h H1 g _ fun v H2 s ⟨a, e, hw⟩ => ha H2 (Stb.up g s) _ fun u H3 s3 t3 => by
    subst e
    cases t3
    refine ⟨(n : Int), rfl, a, _, rfl, hw.up s3, fun p H4 s4 hw4 => q _ H4 ((s.trans s3).trans s4) ⟨p, rfl, ?_⟩⟩
    rw [cutV_from, ← List.map_drop] at hw4
    exact hw4
/-- k in word -/
theorem et_inW [Stb G] {ks : List Str} {k : Str} (hk : EvD G tk σ (.text k)) (h : EvR G tw σ fun v H => Wd H v ks) : EvT G (tTest (tOp (rIn K false) tk tw)) σ (decide (k ∈ ks)) := fun H1 g Q q =>
  hk H1 g _ fun v H2 s t => h H2 (Stb.up g s) _ fun u H3 s3 ⟨a, e, hw⟩ => by
    subst e
    cases t
    refine ⟨a, _, rfl, .inr (.inl hw.rd), rfl, all_flat_texts ks, ?_⟩
    rw [if_neg (by decide), inV_texts]
    exact ⟨_, rfl, q H3 (s.trans s3)⟩
/-- word.index(k, at) -/
theorem ed_index [Stb G] {ks : List Str} {k : Str} {n : Nat} (h : EvR G tw σ fun v H => Wd H v ks) (hk : EvD G tk σ (.text k)) (ha : EvD G ta σ (.num (n : Int))) (hm : k ∈ ks.drop n) : EvD G (tIndex tw (tCons tk (tCons ta tNil))) σ (.num (fromIdx k n ks : Nat)) := fun H1 g Q q =>
  h H1 g _ fun v H2 s ⟨a, e, hw⟩ => by
    subst e
    refine ⟨⟨a, _, rfl, hw⟩, hk H2 (Stb.up g s) _ fun u H3 s3 t3 => ha H3 (Stb.up (Stb.up g s) s3) _ fun u4 H4 s4 t4 => ?_⟩
    cases t3
    cases t4
    exact ⟨a, ks, k, n, rfl, (hw.up s3).up s4, .inl rfl, hm, q _ H4 ((s.trans s3).trans s4) (.num _)⟩
/-- word.index(k) -/
theorem ed_index1 [Stb G] {ks : List Str} {k : Str} (h : EvR G tw σ fun v H => Wd H v ks) (hk : EvD G tk σ (.text k)) (hm : k ∈ ks) : EvD G (tIndex tw (tCons tk tNil)) σ (.num (ks.idxOf k : Nat)) := fun H1 g Q q =>
  h H1 g _ fun v H2 s ⟨a, e, hw⟩ => by
    subst e
    refine ⟨⟨a, _, rfl, hw⟩, hk H2 (Stb.up g s) _ fun u H3 s3 t3 => ?_⟩
    cases t3
    have e0 : fromIdx k 0 ks = ks.idxOf k := by unfold fromIdx; rw [List.drop_zero, Nat.zero_add]
    exact ⟨a, ks, k, 0, rfl, hw.up s3, .inr ⟨rfl, rfl⟩, hm, by rw [e0]; exact q _ H3 (s.trans s3) (.num _)⟩
/-- tuple(sorted(t)), t texts -/
theorem ed_sortTx {ks : List Str} (h : EvD G te σ (txD ks)) (hl : ks.length ≤ 100000) : EvD G (tCB (rTupOf K) (tCons (tCB (rSortQ K) (tCons te tNil)) tNil)) σ (txD (srtS ks)) :=
  EvD.to (ed_tupL (el_sortT h (sortOk_texts hl))) (by unfold txD; rw [srtD_text])
end
abbrev nWaysOn : List Str := ["here", "words", "heavy", "at", "there", "done", "row", "found", "kind", "places"]
theorem sc_WaysOn : FnScope nWaysOn ["here", "words", "heavy"] (defScope (K81.top 10)) := ⟨rfl, rfl, rfl, by decide +kernel, rfl, by decide +kernel, by decide +kernel⟩
def spWaysOn : Sp := fun vs H Q _ => ∃ (hv wv : V) (a : Addr) (us : List V) (w : WW) (heavy : List Str) (e : KE), vs = [hv, wv, .ref a] ∧ Tp H hv (hereD e) ∧ Ww H wv w ∧ H a = some (.lst us) ∧ TpA H us (heavy.map NestedKey.text) ∧ heavy.length ≤ 1000 ∧ e.1.2.length ≤ 1000 ∧ e.2.length ≤ 1000 ∧
  ∀ p vs H', H p = none → Same H H' → H' p = some (.lst vs) → TpA H' vs ((waysOn w heavy e).map hereD) → Q (.ref p) H'
section
variable {P : Program} {w : World} {K : PySem.W.Frag} {mg : Str → Option Value} {base : Heap}
theorem cal_WaysOn (B : Bi mg) (D : DfE K mg "ways_on" 10) : Cal P w K mg base "ways_on" 1 ["here", "words", "heavy"] spWaysOn := by
  obtain ⟨f, fd, D⟩ := D
  have nd := sc_WaysOn.nd
  refine D.cal (D.F.ok sc_WaysOn (fun vs H Q E h => ?_) fun cdv A outer s H vs Q E hr h => ⟨_, PSs.nox
    ((pss_cons (ps_asg (pv 0) (pg_tup rfl (pgs_cons (pg_tup rfl (pgs_cons (pg_name (i := 3) nd rfl (by first | exact Or.inl rfl | exact Or.inr rfl)) (pgs_cons (pg_name (i := 4) nd rfl (by first | exact Or.inl rfl | exact Or.inr rfl)) pgs_nil))) (pgs_cons (pg_name (i := 5) nd rfl (by first | exact Or.inl rfl | exact Or.inr rfl)) (pgs_cons (pg_name (i := 6) nd rfl (by first | exact Or.inl rfl | exact Or.inr rfl)) pgs_nil)))))
      (pss_cons (ps_set (i := 7) nd rfl (by first | exact Or.inl rfl | exact Or.inr rfl) (pe_lst pa_nil))
      (pss_cons (ps_for PassesOwn.never rfl (pi_list (pv 2)) (pg_name (i := 8) nd rfl (by first | exact Or.inl rfl | exact Or.inr rfl)) (pss_one (ps_if (PW.pt (pw_and (pt_cmpR op_notIn_seq (pv 8) (pv 5) (by with_unfolding_all rfl)) (pw_and (pt_cmpR op_in_seq (pv 8) (pe_slice sl_tupF (pe_ix ix_tup (pv 1) pe_int (fun _ _ => rfl)) (po_some (pv 3)) po_none) (by with_unfolding_all rfl)) (pw_and1 (pt_cmpR op_in_seq (pv 8) (pe_slice sl_tupF (pe_ix ix_tup (pv 1) pe_int (fun _ _ => rfl)) (po_some (pv 4)) po_none) (by with_unfolding_all rfl)))))) (pss_cons (ps_set (i := 9) nd rfl (by first | exact Or.inl rfl | exact Or.inr rfl) (pe_tup (pa_cons (pe_op op_add (pe_index (pe_ix ix_tup (pv 1) pe_int (fun _ _ => rfl)) (pa_cons (pv 8) (pa_cons (pv 3) pa_nil))) pe_int) (pa_cons (pe_op op_add (pe_index (pe_ix ix_tup (pv 1) pe_int (fun _ _ => rfl)) (pa_cons (pv 8) (pa_cons (pv 4) pa_nil))) pe_int) pa_nil))))
      (pss_one (ps_expr (pe_bm PySem.F.plainAttrs_list PySem.F.slot_list_append PySem.F.type_list_append mt_append (pv 7) (pa_cons (pe_tup (pa_cons (pv 9) (pa_cons (pe_callTy call_tuple_of rfl B.tuple boot_tuple (pa_cons (pe_callB (cr_sortQ hr.units) rfl B.sorted boot_sorted (pa_cons (pe_op op_catA (pv 5) (pe_tup (pa_cons (pv 8) pa_nil))) pa_nil)) pa_nil)) (pa_cons (pe_op op_catA (pv 6) (pe_tup (pa_cons (pv 8) pa_nil))) pa_nil)))) pa_nil))))) pss_nil)))
      (pss_one (ps_ret (pv 7))))))), ?_⟩)
    (fun kV doc pm an cdv ct us hl => match us, hl with | [_, _, _], _ => rfl)
  · obtain ⟨hv, wv, a, us, w, hy, e, rfl, _⟩ := h; rfl
  · obtain ⟨hv, wv, a, us, w, hy, e, rfl, th, tw, ha, tu, l1, l2, l3, hq⟩ := h
    obtain ⟨b0, xs0, rfl, r0, t0⟩ := th.tup_inv
    obtain ⟨x1, ws, rfl, t1, t0⟩ := TpA.cons_inv t0
    obtain ⟨x2, ws, rfl, t2, t0⟩ := TpA.cons_inv t0
    obtain ⟨x3, ws, rfl, t3, t0⟩ := TpA.cons_inv t0
    cases t0
    obtain ⟨b1, xs1, rfl, r1, t1⟩ := t1.tup_inv
    obtain ⟨y1, ws, rfl, u1, t1⟩ := TpA.cons_inv t1
    obtain ⟨y2, ws, rfl, u2, t1⟩ := TpA.cons_inv t1
    cases t1
    cases u1
    cases u2
    refine ⟨.ref b0, rfl, b0, _, rfl, .inl r0, rfl, .ref b1, _, rfl, b1, _, rfl, .inl r1, rfl, _, _, rfl, _, _, rfl, rfl, x2, _, rfl, x3, _, rfl, rfl, ?_⟩
    refine q_asgL (G := fun H' => Same H H') (el_lst ea_nil (by decide)) (Same.refl H) fun l ls H1 hl0 s1 hl tl => ?_
    cases tl
    have hHl : H l = none := hl0
    refine q_forL (G := fun H' => Same H1 H') (a := a) (us := us) (xs := hy) (mk := NestedKey.text) (er_var rfl fun _ _ => rfl) (Same.refl H1) (s1 _ _ ha) (tu.up s1) (fun i τ H' => ∃ o1 o2 vs, τ = [some (.ref b0), some wv, some (.ref a), some (.int (e.1.1.1 : Nat)), some (.int (e.1.1.2 : Nat)), some x2, some x3, some (.ref l), o1, o2] ∧ Ts H1 H' ∧ Same H H' ∧ H' l = some (.lst vs) ∧ TpA H' vs ((waysOn w (hy.take i) e).map hereD) ∧ vs.length ≤ i) ?_ ?_ ?_ ?_
    · exact fun H2 s2 => ⟨none, none, [], rfl, Ts.of s2, s1.trans s2, s2 _ _ hl, .nil, Nat.le_refl _⟩
    · rintro i τ H' ⟨o1, o2, vs, _, t4, s2, _⟩
      exact ⟨s2 _ _ ha, t4⟩
    · rintro i k τ H' x hk hmem ⟨o1, o2, vs, rfl, ts, s2, e2, tv, hlen⟩ tx
      have e1 := tx.txt_inv
      subst e1
      have hi : i < hy.length := (List.getElem?_eq_some_iff.mp hk).1
      refine eg_name ?_
      have d5 : Tp H' x2 (txD e.1.2) := t2.up s2
      have d6 : Tp H' x3 (txD e.2) := t3.up s2
      have dw : Ww H' wv w := tw.up s2
      refine q_if (G := fun H'' => Same H' H'') (b := decide (KM.MayK w e.1 k)) (EvT.to (et_and (et_cmp (ed_var rfl fun _ _ => .txt k) (ed_var rfl fun H'' s => d5.up s) rb_nin) fun _ => et_and (et_inW (ed_var rfl fun _ _ => .txt k) (er_sliceW (er_ww0 (er_var rfl fun H'' s => dw.up s)) (ed_var rfl fun _ _ => .num _))) fun _ => et_inW (ed_var rfl fun _ _ => .txt k) (er_sliceW (er_ww1 (er_var rfl fun H'' s => dw.up s)) (ed_var rfl fun _ _ => .num _))) ?_) (Same.refl H') (fun hb H3 s3 => ?_) fun hb H3 s3 => ?_
      · unfold KM.MayK
        by_cases c1 : k ∈ e.1.2 <;> by_cases c2 : k ∈ w.1.drop e.1.1.1 <;> by_cases c3 : k ∈ w.2.drop e.1.1.2 <;> simp [c1, c2, c3]
      · have hm : KM.MayK w e.1 k := of_decide_eq_true hb
        obtain ⟨m1, m2, m3⟩ := id hm
        refine q_asgD (G := fun H'' => Same H3 H'') (d := .tup [.num (KM.nxt w.1 e.1.1.1 k : Nat), .num (KM.nxt w.2 e.1.1.2 k : Nat)]) (ed_tup (ea_cons (EvD.to (ed_op (ed_index (er_ww0 (er_var rfl fun H'' s => dw.up (s3.trans s))) (ed_var rfl fun _ _ => .txt k) (ed_var rfl fun _ _ => .num _) m2) ed_int rd_I0) rfl) (ea_cons (EvD.to (ed_op (ed_index (er_ww1 (er_var rfl fun H'' s => dw.up (s3.trans s))) (ed_var rfl fun _ _ => .txt k) (ed_var rfl fun _ _ => .num _) m3) ed_int rd_I0) rfl) ea_nil)) (show 2 ≤ 100000 by decide)) (Same.refl H3) fun pv H4 s4 tp => ?_
        have s34 := s3.trans s4
        have hk1 : EvD (fun H'' => Same H4 H'') (tTup (tCons (tVar 8) tNil)) [some (.ref b0), some wv, some (.ref a), some (.int (e.1.1.1 : Nat)), some (.int (e.1.1.2 : Nat)), some x2, some x3, some (.ref l), some (.str k), some pv] (txD [k]) := ed_tup (ea_cons (ed_var rfl fun _ _ => .txt k) ea_nil) (show 1 ≤ 100000 by decide)
        refine q_append (G := fun H'' => Same H4 H'') (d := hereD (KM.stepK srtS w e.1 k, e.2 ++ [k])) (us := vs) rfl (ed_tup (ea_cons (ed_var rfl fun H'' s => tp.up s) (ea_cons (EvD.to (ed_sortTx (ks := e.1.2 ++ [k]) (EvD.to (ed_op (ed_var rfl fun H'' s => d5.up (s34.trans s)) hk1 (rd_cat ?_)) ?_) ?_) rfl) (ea_cons (EvD.to (ed_op (ed_var rfl fun H'' s => d6.up (s34.trans s)) hk1 (rd_cat ?_)) (d := .tup (e.2.map NestedKey.text ++ [k].map NestedKey.text)) (e := txD (e.2 ++ [k])) (by rw [← List.map_append])) ea_nil))) (show 3 ≤ 100000 by decide)) (Same.refl H4) (s34 _ _ e2) (by omega) fun v H5 s5 t5 => ?_
        · rw [List.length_map]; show _ + 1 ≤ _; omega
        · rw [← List.map_append]
        · rw [List.length_append]; show _ + 1 ≤ _; omega
        · rw [List.length_map]; show _ + 1 ≤ _; omega
        · have s35 := s34.trans s5
          have e5 : H5 l = some (.lst vs) := s35 _ _ e2
          refine ⟨some (.str k), some pv, vs ++ [v], rfl, (ts.trans (Ts.of s35)).trans (Ts.lst e5), same_D (s2.trans s35) hHl, by simp [upd], ?_, by rw [List.length_append]; show _ + 1 ≤ _; omega⟩
          have e6 : waysOn w (hy.take (i + 1)) e = waysOn w (hy.take i) e ++ [(KM.stepK srtS w e.1 k, e.2 ++ [k])] := by
            unfold waysOn
            rw [filter_map_snoc hk, if_pos hb]
          rw [e6, List.map_append]
          exact ((tv.up s35).snoc t5).mono (Ts.lst e5)
      · refine ⟨some (.str k), o2, vs, rfl, ts.trans (Ts.of s3), s2.trans s3, s3 _ _ e2, ?_, by omega⟩
        have e6 : waysOn w (hy.take (i + 1)) e = waysOn w (hy.take i) e := by
          unfold waysOn
          rw [filter_map_snoc hk, hb]
          simp
        rw [e6]
        exact tv.up s3
    · rintro τ H' ⟨o1, o2, vs, rfl, ts, s2, e2, tv, hlen⟩
      rw [List.take_length] at tv
      exact ⟨_, rfl, hq l vs H' hHl s2 e2 tv⟩
end
end K8
end

section
set_option Elab.async false
set_option linter.all false
/-! K81: the search on one shelf, plainly. -/
namespace K8
open PySem
def leftN (heavy : List Str) (e : KE) : Nat := (heavy.filter fun k => decide (k ∉ e.1.2)).length
def muN (heavy : List Str) (wt : List KE) : Nat := (wt.map fun e => (heavy.length + 1) ^ leftN heavy e).sum
structure ES (w : WW) (heavy done : List Str) (kn wt : List KE) : Prop where
  ent : ∀ e ∈ kn, KM.Ent srtS w heavy done e.1 e.2
  entw : ∀ e ∈ wt, KM.Ent srtS w heavy done e.1 e.2
  st : ((0, 0), done) ∈ kn.map (·.1) ∨ ((0, 0), done) ∈ wt.map (·.1)
  cl : ∀ q ∈ kn.map (·.1), ∀ k ∈ heavy, KM.MayK w q k → KM.stepK srtS w q k ∈ kn.map (·.1) ∨ KM.stepK srtS w q k ∈ wt.map (·.1)
  nd : (kn.map (·.1)).Nodup
  sz : kn.length + muN heavy wt ≤ (heavy.length + 1) ^ heavy.length
section
variable {w : WW} {heavy done : List Str} {kn wt : List KE}
theorem leftN_le (e : KE) : leftN heavy e ≤ heavy.length := List.length_filter_le _ _
theorem muN_app (a b : List KE) : muN heavy (a ++ b) = muN heavy a + muN heavy b := by
  unfold muN
  rw [List.map_append, List.sum_append]
theorem muN_one (e : KE) : muN heavy [e] = (heavy.length + 1) ^ leftN heavy e := by
  unfold muN
  simp
theorem len_muN (l : List KE) : l.length ≤ muN heavy l := by
  induction l with
  | nil => exact Nat.zero_le _
  | cons e l ih =>
    have h1 : muN heavy (e :: l) = (heavy.length + 1) ^ leftN heavy e + muN heavy l := by
      unfold muN
      rw [List.map_cons, List.sum_cons]
    have h2 : 0 < (heavy.length + 1) ^ leftN heavy e := Nat.pow_pos (Nat.succ_pos _)
    rw [h1, List.length_cons]
    omega
theorem ES.start (hs : srtS done = done) (nd : done.Nodup) : ES w heavy done [] [(((0, 0), done), [])] := by
  refine ⟨fun e h => (nomatch h), fun e h => ?_, .inr (by simp), fun q h => (nomatch h), List.nodup_nil, ?_⟩
  · rw [List.mem_singleton.mp h]
    exact KM.Ent.start hs nd
  · rw [muN_one]
    have := Nat.pow_le_pow_right (Nat.succ_pos heavy.length) (leftN_le (heavy := heavy) (((0, 0), done), []))
    simpa using this
theorem ES.seen {e : KE} (E : ES w heavy done kn (wt ++ [e])) (h : e.1 ∈ kn.map (·.1)) : ES w heavy done kn wt ∧ muN heavy wt < muN heavy (wt ++ [e]) := by
  have hp : 0 < muN heavy [e] := by rw [muN_one]; exact Nat.pow_pos (Nat.succ_pos _)
  have hsz := E.sz
  rw [muN_app] at hsz
  refine ⟨⟨E.ent, fun e h => E.entw e (List.mem_append_left _ h), ?_, fun q hq k hk m => ?_, E.nd, by omega⟩, by rw [muN_app]; omega⟩
  · rcases E.st with z | z
    · exact .inl z
    · rw [List.map_append] at z
      rcases List.mem_append.mp z with z | z
      · exact .inr z
      · have e1 : ((0, 0), done) = e.1 := by simpa using z
        rw [e1]
        exact .inl h
  · rcases E.cl q hq k hk m with z | z
    · exact .inl z
    · rw [List.map_append] at z
      rcases List.mem_append.mp z with z | z
      · exact .inr z
      · have e1 : KM.stepK srtS w q k = e.1 := by simpa using z
        rw [e1]
        exact .inl h
theorem filter_step {q : List Str} {k : Str} : ∀ {l : List Str}, l.Nodup → k ∈ l → k ∉ q → (l.filter fun x => decide (x ∉ srtS (q ++ [k]))).length + 1 = (l.filter fun x => decide (x ∉ q)).length := by
  have hm : ∀ x, x ∈ srtS (q ++ [k]) ↔ x ∈ q ∨ x = k := fun x => by
    rw [KSrt.mem, List.mem_append, List.mem_singleton]
  intro l
  induction l with
  | nil => intro _ h; cases h
  | cons x l ih =>
    intro hn hk hq
    obtain ⟨hx, hl⟩ := List.nodup_cons.mp hn
    by_cases e : x = k
    · subst e
      have e1 : decide (x ∉ srtS (q ++ [x])) = false := decide_eq_false fun h => h ((hm x).mpr (.inr rfl))
      have e2 : decide (x ∉ q) = true := decide_eq_true hq
      rw [List.filter_cons, List.filter_cons, e1, e2]
      simp only [Bool.false_eq_true, if_false, if_true, List.length_cons]
      have e3 : (l.filter fun y => decide (y ∉ srtS (q ++ [x]))) = l.filter fun y => decide (y ∉ q) := by
        refine List.filter_congr fun y hy => ?_
        have hyx : y ≠ x := fun e => hx (e ▸ hy)
        rw [decide_eq_decide]
        constructor
        · exact fun h1 h2 => h1 ((hm y).mpr (.inl h2))
        · intro h1 h2
          rcases (hm y).mp h2 with h | h
          · exact h1 h
          · exact hyx h
      rw [e3]
    · have hk' : k ∈ l := by
        rcases List.mem_cons.mp hk with h | h
        · exact absurd h.symm e
        · exact h
      have ih := ih hl hk' hq
      have e3 : decide (x ∉ srtS (q ++ [k])) = decide (x ∉ q) := by
        rw [decide_eq_decide]
        constructor
        · exact fun h1 h2 => h1 ((hm x).mpr (.inl h2))
        · intro h1 h2
          rcases (hm x).mp h2 with h | h
          · exact h1 h
          · exact e h
      rw [List.filter_cons, List.filter_cons, e3]
      by_cases h : decide (x ∉ q) = true
      · rw [if_pos h, if_pos h, List.length_cons, List.length_cons]
        omega
      · rw [if_neg h, if_neg h]
        exact ih
theorem mu_ways (hn : heavy.Nodup) (e : KE) : muN heavy (waysOn w heavy e) < (heavy.length + 1) ^ leftN heavy e := by
  have h1 : ∀ x ∈ waysOn w heavy e, leftN heavy x + 1 = leftN heavy e := fun x hx => by
    obtain ⟨k, hk, rfl⟩ := List.mem_map.mp hx
    obtain ⟨hk1, hk2⟩ := List.mem_filter.mp hk
    have m : KM.MayK w e.1 k := of_decide_eq_true hk2
    exact filter_step hn hk1 m.1
  have h2 : (waysOn w heavy e).length ≤ leftN heavy e := by
    unfold waysOn leftN
    rw [List.length_map]
    have : ∀ l : List Str, (l.filter fun k => decide (KM.MayK w e.1 k)).length ≤ (l.filter fun k => decide (k ∉ e.1.2)).length := by
      intro l
      induction l with
      | nil => exact Nat.le_refl _
      | cons x l ih =>
        rw [List.filter_cons, List.filter_cons]
        by_cases h : decide (KM.MayK w e.1 x) = true
        · have h' : decide (x ∉ e.1.2) = true := decide_eq_true (of_decide_eq_true h : KM.MayK w e.1 x).1
          rw [if_pos h, if_pos h', List.length_cons, List.length_cons]
          omega
        · rw [if_neg h]
          by_cases h' : decide (x ∉ e.1.2) = true
          · rw [if_pos h', List.length_cons]; omega
          · rw [if_neg h']; exact ih
    exact this heavy
  cases hm : leftN heavy e with
  | zero =>
    rw [hm] at h2
    have : waysOn w heavy e = [] := List.length_eq_zero_iff.mp (Nat.le_zero.mp h2)
    rw [this]
    exact Nat.pow_pos (Nat.succ_pos _)
  | succ m =>
    have h3 : ∀ l : List KE, (∀ x ∈ l, leftN heavy x = m) → muN heavy l = l.length * (heavy.length + 1) ^ m := by
      intro l
      induction l with
      | nil => intro _; simp [muN]
      | cons x l ih =>
        intro h
        have e1 : muN heavy (x :: l) = (heavy.length + 1) ^ leftN heavy x + muN heavy l := by
          unfold muN
          rw [List.map_cons, List.sum_cons]
        rw [e1, ih fun y hy => h y (List.mem_cons_of_mem _ hy), h x List.mem_cons_self, List.length_cons, Nat.succ_mul, Nat.add_comm]
    rw [h3 _ fun x hx => by have := h1 x hx; omega]
    have h4 : (waysOn w heavy e).length ≤ heavy.length := Nat.le_trans h2 (leftN_le e)
    have h5 : 0 < (heavy.length + 1) ^ m := Nat.pow_pos (Nat.succ_pos _)
    calc (waysOn w heavy e).length * (heavy.length + 1) ^ m ≤ heavy.length * (heavy.length + 1) ^ m := Nat.mul_le_mul_right _ h4
      _ < (heavy.length + 1) * (heavy.length + 1) ^ m := (Nat.mul_lt_mul_right h5).mpr (Nat.lt_succ_self _)
      _ = (heavy.length + 1) ^ (m + 1) := by rw [Nat.pow_succ, Nat.mul_comm]
theorem ES.new {e : KE} (hn : heavy.Nodup) (E : ES w heavy done kn (wt ++ [e])) (h : e.1 ∉ kn.map (·.1)) : ES w heavy done (kn ++ [e]) (wt ++ waysOn w heavy e) ∧ muN heavy (wt ++ waysOn w heavy e) < muN heavy (wt ++ [e]) := by
  have hlt := mu_ways (w := w) hn e
  have hsz := E.sz
  rw [muN_app, muN_one] at hsz
  have Ee := E.entw e (List.mem_append_right _ (List.mem_singleton.mpr rfl))
  refine ⟨⟨fun x hx => ?_, fun x hx => ?_, ?_, fun q hq k hk m => ?_, ?_, ?_⟩, ?_⟩
  · rcases List.mem_append.mp hx with hx | hx
    · exact E.ent x hx
    · rw [List.mem_singleton.mp hx]; exact Ee
  · rcases List.mem_append.mp hx with hx | hx
    · exact E.entw x (List.mem_append_left _ hx)
    · obtain ⟨k, hk, rfl⟩ := List.mem_map.mp hx
      obtain ⟨hk1, hk2⟩ := List.mem_filter.mp hk
      exact Ee.step KSrt hk1 (of_decide_eq_true hk2)
  · rw [List.map_append, List.map_append]
    rcases E.st with z | z
    · exact .inl (List.mem_append_left _ z)
    · rw [List.map_append] at z
      rcases List.mem_append.mp z with z | z
      · exact .inr (List.mem_append_left _ z)
      · exact .inl (List.mem_append_right _ z)
  · rw [List.map_append] at hq ⊢
    rw [List.map_append]
    rcases List.mem_append.mp hq with hq | hq
    · rcases E.cl q hq k hk m with z | z
      · exact .inl (List.mem_append_left _ z)
      · rw [List.map_append] at z
        rcases List.mem_append.mp z with z | z
        · exact .inr (List.mem_append_left _ z)
        · exact .inl (List.mem_append_right _ z)
    · have e1 : q = e.1 := by simpa using hq
      subst e1
      refine .inr (List.mem_append_right _ (List.mem_map.mpr ⟨(KM.stepK srtS w e.1 k, e.2 ++ [k]), ?_, rfl⟩))
      exact List.mem_map.mpr ⟨k, List.mem_filter.mpr ⟨hk, decide_eq_true m⟩, rfl⟩
  · rw [List.map_append]
    refine List.nodup_append.mpr ⟨E.nd, by simp, fun x hx y hy e1 => ?_⟩
    have : y = e.1 := by simpa using hy
    exact h (by rw [← this, ← e1]; exact hx)
  · rw [List.length_append, muN_app]
    show kn.length + 1 + _ ≤ _
    omega
  · rw [muN_app, muN_app, muN_one]
    omega
theorem ES.ends (hs : srtS done = done) (E : ES w heavy done kn []) {res : List (List Str × List Str)} (hr : res.Perm (kn.map fun e => (e.1.2, e.2))) : KM.Ends srtS w heavy done res := by
  refine KM.ends_of_closed KSrt hs E.ent ?_ (fun q hq k hk m => ?_) hr
  · rcases E.st with z | z
    · exact z
    · exact nomatch z
  · rcases E.cl q hq k hk m with z | z
    · exact z
    · exact nomatch z
end
end K8
end

section
set_option Elab.async false
set_option linter.all false
set_option maxRecDepth 100000
set_option maxHeartbeats 4000000
/-! K81: ends_of. -/
namespace K8
open PySem PySem.Spec PyProof.Rows L2
theorem DNo.mono {P : Program} {w : World} {H H' : Hp} {d : Addr} {o : Obj} {xs : List (E3 V)} (D : DNo P w H d o xs) (e : H' d = some (dnO d o)) (t : Ts H H') : DNo P w H' d o xs :=
  ⟨e, D.raw, D.nd, fun x hx => ⟨(D.key x hx).1.mono t, (D.key x hx).2⟩, D.nm, D.sz⟩
theorem DNo.up {P : Program} {w : World} {H H' : Hp} {d : Addr} {o : Obj} {xs : List (E3 V)} (D : DNo P w H d o xs) (s : Same H H') : DNo P w H' d o xs := D.mono (s _ _ D.at_) (Ts.of s)
theorem Ts.dn {H : Hp} {d : Addr} {o : Obj} {u : HO} (h : H d = some (dnO d o)) : Ts H (upd H d u) := Ts.ext h
def keyD (q : KM.Key Str) : Dt := .tup [.tup [.num (q.1.1 : Nat), .num (q.1.2 : Nat)], txD q.2]
theorem txD_inj {a b : List Str} (h : txD a = txD b) : a = b := by
  unfold txD at h
  have h := NestedKey.tup.inj h
  exact List.map_inj_right (fun x y e => NestedKey.text.inj e) |>.mp h
theorem keyD_inj {p q : KM.Key Str} (h : keyD p = keyD q) : p = q := by
  obtain ⟨⟨a, b⟩, c⟩ := p
  obtain ⟨⟨a', b'⟩, c'⟩ := q
  have h1 := NestedKey.tup.inj h
  injection h1 with h2 h3
  injection h3 with h4 h5
  have h6 := NestedKey.tup.inj h2
  injection h6 with h7 h8
  injection h8 with h9 h10
  have e1 := NestedKey.num.inj h7
  have e2 := NestedKey.num.inj h9
  have e3 : c = c' := txD_inj h4
  have e1' : a = a' := Int.ofNat.inj e1
  have e2' : b = b' := Int.ofNat.inj e2
  rw [e1', e2', e3]
/-- the dict holds kn -/
def KnX (H : Hp) (xs : List (E3 V)) (kn : List KE) : Prop := Paired (fun (x : E3 V) (e : KE) => x.1 = keyD e.1 ∧ Tp H x.2.2 (txD e.2)) xs kn
theorem KnX.mono {H H' : Hp} {xs : List (E3 V)} {kn : List KE} (k : KnX H xs kn) (t : Ts H H') : KnX H' xs kn := by
  unfold KnX at k ⊢
  induction k with
  | nil => exact .nil
  | cons h _ ih => exact .cons ⟨h.1, h.2.mono t⟩ ih
theorem KnX.keys {H : Hp} {xs : List (E3 V)} {kn : List KE} (k : KnX H xs kn) : xs.map (·.1) = kn.map fun e => keyD e.1 := by
  unfold KnX at k
  induction k with
  | nil => rfl
  | cons h _ ih => rw [List.map_cons, List.map_cons, h.1, ih]
theorem KnX.mem {H : Hp} {xs : List (E3 V)} {kn : List KE} (k : KnX H xs kn) (q : KM.Key Str) : keyD q ∈ xs.map (·.1) ↔ q ∈ kn.map (·.1) := by
  rw [k.keys]
  constructor
  · intro h
    obtain ⟨e, he, h1⟩ := List.mem_map.mp h
    exact List.mem_map.mpr ⟨e, he, keyD_inj h1⟩
  · intro h
    obtain ⟨e, he, h1⟩ := List.mem_map.mp h
    exact List.mem_map.mpr ⟨e, he, by rw [h1]⟩
theorem KnX.len {H : Hp} {xs : List (E3 V)} {kn : List KE} (k : KnX H xs kn) : xs.length = kn.length := by
  unfold KnX at k
  exact Paired.length k
theorem depth_txD (a : List Str) : (txD a).depth ≤ 1 := by
  show NestedKey.depthAll _ + 1 ≤ 1
  have := depth_tup_le (ds := a.map NestedKey.text) (n := 0) fun d hd => by
    obtain ⟨k, _, rfl⟩ := List.mem_map.mp hd
    exact Nat.le_refl _
  omega
theorem depth_keyD (q : KM.Key Str) : (keyD q).depth ≤ 2 := by
  have h := depth_txD q.2
  show max (max 0 (max 0 0) + 1) (max (txD q.2).depth 0) + 1 ≤ 2
  omega
theorem alike_txD (a b : List Str) : PySem.W.alike (txD a).data (txD b).data = true := by
  show PySem.W.alikeAll (NestedKey.datas (a.map NestedKey.text)) (NestedKey.datas (b.map NestedKey.text)) = true
  induction a generalizing b with
  | nil => rfl
  | cons x a ih =>
    cases b with
    | nil => rfl
    | cons y b => exact ih b
/-- an item of known -/
def itemD (e : KE) : Dt := .tup [keyD e.1, txD e.2]
theorem sortOk_items {kn : List KE} (h : kn.length ≤ 100000) : SortOk (kn.map itemD) := by
  refine ⟨fun d hd d' hd' => ?_, .inl fun d hd => ?_, fun d hd => ?_, by rw [List.length_map, sizeLine_eq]; omega⟩
  · obtain ⟨z, hz, rfl⟩ := List.mem_map.mp hd
    obtain ⟨z', hz', rfl⟩ := List.mem_map.mp hd'
    obtain ⟨e, _, rfl⟩ := List.mem_map.mp hz
    obtain ⟨e', _, rfl⟩ := List.mem_map.mp hz'
    have h1 := alike_txD e.1.2 e'.1.2
    have h2 := alike_txD e.2 e'.2
    show ((true && (true && true)) && (PySem.W.alike (txD e.1.2).data (txD e'.1.2).data && true) && (PySem.W.alike (txD e.2).data (txD e'.2).data && true)) = true
    rw [h1, h2]
    rfl
  · obtain ⟨e, _, rfl⟩ := List.mem_map.mp hd
    exact ⟨_, rfl⟩
  · obtain ⟨e, _, rfl⟩ := List.mem_map.mp hd
    have h1 := depth_keyD e.1
    have h2 := depth_txD e.2
    show max (keyD e.1).depth (max (txD e.2).depth 0) + 1 ≤ 8
    omega
theorem KnX.pairs {H : Hp} {xs : List (E3 V)} {kn : List KE} (k : KnX H xs kn) (key : ∀ x ∈ xs, Tp H (.ref x.2.1) x.1 ∧ x.1.depth ≤ 8) : Paired (PairD H) (xs.map kvOf) (kn.map itemD) := by
  unfold KnX at k
  induction k with
  | nil => exact .nil
  | @cons x e xs kn h _ ih =>
    refine .cons ⟨keyD e.1, txD e.2, rfl, ?_, h.2⟩ (ih fun y hy => key y (List.mem_cons_of_mem _ hy))
    have := (key x List.mem_cons_self).1
    rw [h.1] at this
    exact this
theorem nodup_len {l m : List Str} (n : l.Nodup) (h : ∀ x ∈ l, x ∈ m) : l.length ≤ m.length := by
  induction l generalizing m with
  | nil => exact Nat.zero_le _
  | cons x l ih =>
    obtain ⟨hx, hl⟩ := List.nodup_cons.mp n
    have hm := h x List.mem_cons_self
    have h1 := ih (m := m.erase x) hl fun y hy => (List.mem_erase_of_ne (fun e : y = x => hx (e ▸ hy))).mpr (h y (List.mem_cons_of_mem _ hy))
    have h2 := List.length_erase_of_mem hm
    have h3 : 0 < m.length := List.length_pos_of_mem hm
    rw [List.length_cons]
    omega
/-- the items by order -/
def srtK (kn : List KE) : List KE := kn.mergeSort (fun a b => PySem.W.dataLe false (fun e : KE => (itemD e).data) a b)
theorem srtK_perm (kn : List KE) : (srtK kn).Perm kn := List.mergeSort_perm _ _
theorem srtK_map (kn : List KE) : srtD (kn.map itemD) = (srtK kn).map itemD := (PySem.W.sort_maps itemD fun _ _ _ _ => rfl).symm
abbrev nEndsOf : List Str := ["words", "heavy", "done", "known", "waiting", "here", "places", "kinds", "row"]
theorem sc_EndsOf : FnScope nEndsOf ["words", "heavy", "done"] (defScope (K81.top 11)) := ⟨rfl, rfl, rfl, by decide +kernel, rfl, by decide +kernel, by decide +kernel⟩
def spEndsOf : Sp := fun vs H Q _ => ∃ (wv dv : V) (a : Addr) (us : List V) (w : WW) (heavy done : List Str), vs = [wv, .ref a, dv] ∧ Ww H wv w ∧ H a = some (.lst us) ∧ TpA H us (heavy.map NestedKey.text) ∧ Tp H dv (txD done) ∧ heavy.length ≤ 5 ∧ heavy.Nodup ∧ done.Nodup ∧ srtS done = done ∧ done.length ≤ 100 ∧
  ∀ p vs H' res, H p = none → Same H H' → H' p = some (.lst vs) → TpA H' vs (res.map fun r : List Str × List Str => NestedKey.tup [txD r.1, txD r.2]) → KM.Ends srtS w heavy done res → res.length ≤ 7776 → Q (.ref p) H'
section
variable {P : Program} {w : World} {K : PySem.W.Frag} {mg : Str → Option Value} {base : Heap}
theorem cal_EndsOf (B : Bi mg) (D : DfE K mg "ends_of" 11) (CWaysOn : Cal P w K mg base "ways_on" 1 ["here", "words", "heavy"] spWaysOn) : Cal P w K mg base "ends_of" 2 ["words", "heavy", "done"] spEndsOf := by
  obtain ⟨f, fd, D⟩ := D
  have nd := sc_EndsOf.nd
  refine D.cal (D.F.ok sc_EndsOf (fun vs H Q E h => ?_) fun cdv A outer s H vs Q E hr h => ⟨_, PSs.nox
    ((pss_cons (ps_par (i := 3) (j := 4) rfl nd rfl rfl (by decide) rfl rfl (pa_cons pe_new (pa_cons (pe_lst (pa_cons (pe_tup (pa_cons (pe_tup (pa_cons pe_int (pa_cons pe_int pa_nil))) (pa_cons (pv 2) (pa_cons (pe_tup pa_nil) pa_nil)))) pa_nil)) pa_nil)) (by rfl))
      (pss_cons (ps_while PassesOwn.never (pt_cmpR op_gt (pe_callB call_len_seq rfl B.len PySem.boot_len (pa_cons (pv 4) pa_nil)) pe_int (nomark _)) (pss_cons (ps_set (i := 5) nd rfl (by first | exact Or.inl rfl | exact Or.inr rfl) (pe_bm0 PySem.F.plainAttrs_list PySem.F.slot_list_pop PySem.F.type_list_pop mt_pop (pv 4)))
      (pss_one (ps_if (pt_cmpR (op_notInN hr.units) (pe_slice sl_tupA (pv 5) po_none (po_some pe_int)) (pv 3) (by with_unfolding_all rfl)) (pss_cons (ps_asg (pe_ix ix_tup (pv 5) pe_int (fun _ _ => rfl)) (pg_sub (pv 3) (pe_slice sl_tupA (pv 5) po_none (po_some pe_int)) (set_n hr.units)))
      (pss_one (ps_expr (pe_bm PySem.F.plainAttrs_list PySem.F.slot_list_extend PySem.F.type_list_extend mt_extend (pv 4) (pa_cons (pe_callC CWaysOn (hr.mono (by decide)) (pa_cons (pv 5) (pa_cons (pv 0) (pa_cons (pv 1) pa_nil)))) pa_nil))))) pss_nil))))
      (pss_one (ps_ret (pe_lc (wi := (iList K (tCB (rSortI8 P w) (tCons (tItems P w (tVar 3)) tNil)))) (g := (gTup K 2 (gCons (gTup K 2 (gCons (gName 6) (gCons (gName 7) gNil))) (gCons (gName 8) gNil)))) (tt := tYes) (te := _) rfl nd (pi_list (pe_callB (cr_sortI8 rfl hr.units) rfl B.sorted boot_sorted (pa_cons (pe_items (pv 3)) pa_nil))) (blkOk_by (own := [("places", 6), ("kinds", 7), ("row", 8)]) (by kernel_rfl)) (fun _ _ _ _ _ => (pg_tup rfl (pgs_cons (pg_tup rfl (pgs_cons (pg_name (i := 6) nd rfl (by first | exact Or.inl rfl | exact Or.inr rfl)) (pgs_cons (pg_name (i := 7) nd rfl (by first | exact Or.inl rfl | exact Or.inr rfl)) pgs_nil))) (pgs_cons (pg_name (i := 8) nd rfl (by first | exact Or.inl rfl | exact Or.inr rfl)) pgs_nil)))) (fun _ _ _ _ _ => pts_nil) (fun _ _ _ _ _ => (pe_tup (pa_cons (pv 7) (pa_cons (pv 8) pa_nil)))))))))), ?_⟩)
    (fun kV doc pm an cdv ct us hl => match us, hl with | [_, _, _], _ => rfl)
  · obtain ⟨wv, dv, a, us, ww, hy, dn, rfl, _⟩ := h; rfl
  · obtain ⟨wv, dv, a, us, ww, hy, dn, rfl, tw, ha, tu, td, l1, n1, n2, hs, l2, hq⟩ := h
    intro d o hd Dd
    refine el_lst (G := fun H' => Same (upd H d (dnO d o)) H') (ds := [hereD (((0, 0), dn), [])]) (ea_cons (ed_tup (ea_cons (ed_tup (ea_cons ed_int (ea_cons ed_int ea_nil)) (show 2 ≤ 100000 by decide)) (ea_cons (ed_var rfl fun H' s => (td.up (same_new hd)).up s) (ea_cons (ed_tup ea_nil (show 0 ≤ 100000 by decide)) ea_nil))) (show 3 ≤ 100000 by decide)) ea_nil) (show 1 ≤ 100000 by decide) _ (Same.refl _) _ fun l ls H1 hl0 s1 e1 t1 => ?_
    refine ⟨_, _, rfl, ?_⟩
    have hdl : d ≠ l := fun e => by subst e; simp [upd] at hl0
    have hHl : H l = none := (same_new (o := dnO d o) hd).free hl0
    have s01 : Same H H1 := (same_new hd).trans s1
    refine ⟨fun m σ H' => ∃ o5 o6 o7 o8 o xs us kn wt, σ = [some wv, some (.ref a), some dv, some (.ref d), some (.ref l), o5, o6, o7, o8] ∧ m = muN hy wt ∧ Ts H1 H' ∧ Fs H H' ∧ Same H H' ∧ DNo P w H' d o xs ∧ KnX H' xs kn ∧ H' l = some (.lst us) ∧ TpA H' us (wt.map hereD) ∧ ES ww hy dn kn wt, ⟨_, none, none, none, none, o, [], ls, [], [(((0, 0), dn), [])], rfl, rfl, Ts.of (Same.refl _), Fs.of s01, s01, Dd.up s1, .nil, e1, t1, ES.start hs n2⟩, ?_⟩
    rintro m σ H' ⟨o5, o6, o7, o8, o, xs, us, kn, wt, rfl, rfl, ts, fs, sH, Dn, Kx, el, tl, E⟩
    refine et_cmp (G := fun H'' => Same H' H'') (ed_lenL (es_var (ds := wt.map hereD) rfl fun H'' s => ⟨us, s _ _ el, tl.up s⟩)) ed_int rb_I0 H' (Same.refl _) _ fun H2 s2 => ?_
    rw [List.length_map]
    have ts2 : Ts H1 H2 := ts.trans (Ts.of s2)
    have fs2 : Fs H H2 := fs.trans (Fs.of s2)
    have sH2 : Same H H2 := sH.trans s2
    have Dn2 := Dn.up s2
    have Kx2 := Kx.mono (Ts.of s2)
    have el2 : H2 l = some (.lst us) := s2 _ _ el
    have tl2 := tl.up s2
    rcases List.eq_nil_or_concat wt with rfl | ⟨wt', e, rfl⟩
    · rw [if_neg (by simp)]
      refine q_nx ?_
      have hknl : kn.length ≤ 7776 := by
        have := E.sz
        have hbig : (hy.length + 1) ^ hy.length ≤ 7776 := Nat.le_trans (Nat.pow_le_pow_right (Nat.succ_pos _) l1) (Nat.pow_le_pow_left (show hy.length + 1 ≤ 6 by omega) 5)
        omega
      have hso : SortOk (kn.map itemD) := sortOk_items (by omega)
      have hsrt : EvL (fun H'' => Same H2 H'') (tCB (rSortI8 P w) (tCons (tItems P w (tVar 3)) tNil)) [some wv, some (.ref a), some dv, some (.ref d), some (.ref l), o5, o6, o7, o8] ((srtK kn).map itemD) := fun H5 s5 Q q => by
        have D5 := Dn2.up s5
        refine ⟨.ref d, rfl, d, rfl, .inl ⟨o, xs, D5⟩, fun p hp => ?_⟩
        have sn := same_new (o := L2.DX.itemsO p d) hp
        refine ⟨p, d, xs.map kvOf, kn.map itemD, rfl, by simp [upd], .inl ⟨o, xs, D5.up sn, rfl⟩, ((Kx2.mono (Ts.of s5)).mono (Ts.of sn)).pairs (D5.up sn).key, hso, fun H6 q' ys s6 hn e6 t6 => ?_⟩
        rw [srtK_map] at t6
        exact q q' ys H6 (sn.free hn) (sn.trans s6) e6 t6
      refine q_retL (G := fun H'' => Same H2 H'') (el_lcM (fun e : KE => NestedKey.tup [txD e.1.2, txD e.2]) (ei_list hsrt) (by rw [(srtK_perm kn).length_eq]; omega) ?_) (Same.refl H2) fun p vs H5 hn s5 e5 t5 => ?_
      · intro H5 s5 e he x Hx sx tx Qg hqg
        obtain ⟨b0, ys, rfl, r0, t0⟩ := tx.tup_inv
        obtain ⟨x1, ws, rfl, t1, t0⟩ := TpA.cons_inv t0
        obtain ⟨x2, ws, rfl, t2, t0⟩ := TpA.cons_inv t0
        cases t0
        obtain ⟨b1, ys, rfl, r1, t1⟩ := t1.tup_inv
        obtain ⟨y1, ws, rfl, u1, t1⟩ := TpA.cons_inv t1
        obtain ⟨y2, ws, rfl, u2, t1⟩ := TpA.cons_inv t1
        cases t1
        refine ⟨b0, _, rfl, .inl r0, rfl, .ref b1, _, rfl, b1, _, rfl, .inl r1, rfl, y1, _, rfl, y2, _, rfl, rfl, x2, _, rfl, rfl, hqg _ _ ⟨Same.refl _, rfl, et_yes, ed_tup (ea_cons (ed_var rfl fun H'' s => u2.up s) (ea_cons (ed_var rfl fun H'' s => t2.up s) ea_nil)) (show 2 ≤ 100000 by decide)⟩⟩
      · refine hq p vs H5 ((srtK kn).map fun e => (e.1.2, e.2)) (sH2.free hn) (sH2.trans s5) e5 (by rw [List.map_map]; exact t5) (E.ends hs ((srtK_perm kn).map _)) (by rw [List.length_map, (srtK_perm kn).length_eq]; exact hknl)
    · rw [List.concat_eq_append] at *
      rw [if_pos (by simp)]
      refine ⟨_, fun σ' H' h => h, ?_⟩
      have hlen : us.length = wt'.length + 1 := by rw [tl2.length]; simp
      obtain ⟨v, hv, tv⟩ := tl2.get (i := wt'.length) (d := hereD e) (by simp)
      have hv' : us[us.length - 1]? = some v := by rw [hlen]; exact hv
      have tdl : TpA H2 us.dropLast (wt'.map hereD) := by
        have := tl2.dropLast
        rw [List.map_append, List.map_cons, List.map_nil, List.dropLast_concat] at this
        exact this
      refine ⟨.ref l, rfl, .inl ⟨rfl, us, .inl (.inl el2)⟩, l, us, v, rfl, rfl, el2, hv', ?_⟩
      generalize hH3 : upd H2 l (.lst us.dropLast) = H3
      have s23 : Ts H2 H3 := by rw [← hH3]; exact Ts.lst el2
      have f23 : Fs H2 H3 := by rw [← hH3]; exact Fs.upd el2 (fun _ _ z => nomatch z)
      have e3 : H3 l = some (.lst us.dropLast) := by rw [← hH3]; simp [upd]
      have ed3 : H3 d = some (dnO d o) := by rw [← hH3, upd_ne hdl]; exact Dn2.at_
      have Dn3 := Dn2.mono ed3 s23
      have Kx3 := Kx2.mono s23
      have sH3 : Same H H3 := by rw [← hH3]; exact same_D sH2 hHl
      have tv3 := tv.mono s23
      have tdl3 := tdl.mono s23
      have ts3 := ts2.trans s23
      have fs3 := fs2.trans f23
      have key3 : EvD (fun H'' => Same H3 H'') (tSl (rSlA K) (tVar 5) tNoPart (tPart (tC (.int 2)))) [some wv, some (.ref a), some dv, some (.ref d), some (.ref l), some v, o6, o7, o8] (keyD e.1) := EvD.to (ed_sl (ed_var rfl fun H'' s => tv3.up s) eo_none (eo_some ed_int)) (by rw [show (2 : Int) = ((2 : Nat) : Int) from rfl, cut_to]; rfl)
      refine q_gn ?_
      have Ee := E.entw e (List.mem_append_right _ (List.mem_singleton.mpr rfl))
      have hrow : e.2.length ≤ 5 := Nat.le_trans (nodup_len (List.nodup_append.mp Ee.nd).2.1 Ee.hv) l1
      have hdone : e.1.2.length ≤ 1000 := by
        rw [Ee.key, (srtS_perm _).length_eq, List.length_append]
        omega
      have hbig : (hy.length + 1) ^ hy.length ≤ 7776 := Nat.le_trans (Nat.pow_le_pow_right (Nat.succ_pos _) l1) (Nat.pow_le_pow_left (show hy.length + 1 ≤ 6 by omega) 5)
      refine q_if (G := fun H'' => Same H3 H'') (b := !decide (keyD e.1 ∈ xs.map (·.1))) (et_test fun H4 s4 Q q => ?_) (Same.refl H3) (fun hb H4 s4 => ?_) fun hb H4 s4 => ?_
      · refine key3 H4 s4 _ fun kv H5 s5 tk => ?_
        obtain ⟨ka, kxs, rfl, _⟩ := tk.tup_inv
        refine ⟨.ref d, rfl, d, o, xs, keyD e.1, ka, rfl, rfl, Dn3.up (s4.trans s5), tk, Nat.le_trans (depth_keyD _) (by decide), q _ H5 s5 rfl⟩
      · have hnk : keyD e.1 ∉ xs.map (·.1) := by simpa using hb
        refine ed_ixc (G := fun H'' => Same H4 H'') (K := K) (i := 2) (d := txD e.2) (ed_var rfl fun H'' s => (tv3.up s4).up s) rfl H4 (Same.refl _) _ fun rv H5 s5 tr => ?_
        refine ⟨.ref d, rfl, key3 H5 (s4.trans s5) _ fun kv H6 s6 tk => ?_⟩
        obtain ⟨ka, kxs, rfl, _⟩ := tk.tup_inv
        have s36 := (s4.trans s5).trans s6
        have Dn6 := Dn3.up s36
        have hxl : xs.length ≤ 7776 := by
          have := E.sz
          rw [Kx.len]; omega
        refine ⟨d, o, xs, keyD e.1, ka, rfl, rfl, Dn6, tk, Nat.le_trans (depth_keyD _) (by decide), by have := sizeLine_eq; omega, fun o' Dn7 => ?_⟩
        rw [putN_new hnk] at Dn7
        generalize hH7 : upd H6 d (dnO d o') = H7 at Dn7
        have s67 : Ts H6 H7 := by rw [← hH7]; exact Ts.dn Dn6.at_
        have f67 : Fs H6 H7 := by rw [← hH7]; exact Fs.upd Dn6.at_ (fun _ _ z => nomatch z)
        have sH7 : Same H H7 := by rw [← hH7]; exact same_D (sH3.trans s36) hd
        have e7 : H7 l = some (.lst us.dropLast) := by rw [← hH7, upd_ne (Ne.symm hdl)]; exact s36 _ _ e3
        have t37 : Ts H3 H7 := (Ts.of s36).trans s67
        refine ⟨.ref l, rfl, .inl ⟨rfl, _, .inl (.inl e7)⟩, v, rfl, wv, rfl, .ref a, rfl, v, wv, a, _, ww, hy, e, rfl, tv3.mono t37, tw.up sH7, sH7 _ _ ha, tu.up sH7, by omega, hdone, by omega, fun p vs H8 hp s8 e8 t8 => ?_⟩
        have E' := E.new n1 fun h => hnk ((Kx.mem e.1).mpr h)
        have hsz := E'.1.sz
        have hlen2 : (wt' ++ waysOn ww hy e).length ≤ 7776 := by
          have := len_muN (heavy := hy) (wt' ++ waysOn ww hy e)
          omega
        have hul : us.dropLast.length = wt'.length := by rw [tdl.length, List.length_map]
        have hvl : vs.length = (waysOn ww hy e).length := by rw [t8.length, List.length_map]
        rw [List.length_append] at hlen2
        have e8' : H8 l = some (.lst us.dropLast) := s8 _ _ e7
        have td8 : TpA H8 us.dropLast (wt'.map hereD) := (tdl3.mono t37).up s8
        have sH8 := sH7.trans s8
        refine ⟨l, p, us.dropLast, vs, rfl, rfl, e8', e8, by have := sizeLine_eq; omega, muN hy (wt' ++ waysOn ww hy e), E'.2, some v, o6, o7, o8, o', xs ++ [(keyD e.1, ka, rv)], us.dropLast ++ vs, kn ++ [e], wt' ++ waysOn ww hy e, rfl, rfl, ?_, ?_, same_D sH8 hHl, ?_, ?_, by simp [upd], ?_, E'.1⟩
        · exact ((ts3.trans t37).trans (Ts.of s8)).trans (Ts.lst e8')
        · exact (((fs3.trans (Fs.of s36)).trans f67).trans (Fs.of s8)).trans (Fs.upd e8' (fun _ _ z => nomatch z))
        · exact (Dn7.up s8).mono (by rw [upd_ne hdl]; exact (Dn7.up s8).at_) (Ts.lst e8')
        · exact (paired_snoc (F := fun (x : E3 V) (e : KE) => x.1 = keyD e.1 ∧ Tp _ x.2.2 (txD e.2)) ⟨rfl, (((tr.up s6).mono s67).up s8).mono (Ts.lst e8')⟩ (Kx3.mono ((t37.trans (Ts.of s8)).trans (Ts.lst e8'))))
        · rw [List.map_append]
          exact (td8.app t8).mono (Ts.lst e8')
      · have hk : e.1 ∈ kn.map (·.1) := (Kx.mem e.1).mp (by simpa using hb)
        have E' := E.seen hk
        exact ⟨muN hy wt', E'.2, some v, o6, o7, o8, o, xs, us.dropLast, kn, wt', rfl, rfl, ts3.trans (Ts.of s4), fs3.trans (Fs.of s4), sH3.trans s4, Dn3.up s4, Kx3.mono (Ts.of s4), s4 _ _ e3, tdl3.up s4, E'.1⟩
end
end K8
end

section
set_option Elab.async false
set_option linter.all false
/-! K81: shelf by shelf, plainly. -/
namespace K8
open PySem
abbrev KR := List Str × List (List Str)
def addL (la : List KR) (k : List Str) (v : List (List Str)) : List KR := if k ∈ la.map (·.1) then la else la ++ [(k, v)]
structure LP (w : WW) (heavy : List Str) (kn : List KR) (i : Nat) (la : List KR) : Prop where
  nd : (la.map (·.1)).Nodup
  sound : ∀ p ∈ la, ∃ e ∈ kn, ∃ r, p.2 = e.2 ++ [r] ∧ KM.Cs w r ∧ (e.1 ++ r).Nodup ∧ (∀ k ∈ r, k ∈ heavy) ∧ p.1 = srtS (e.1 ++ r)
  full : ∀ e ∈ kn.take i, ∀ r, KM.Cs w r → (e.1 ++ r).Nodup → (∀ k ∈ r, k ∈ heavy) → srtS (e.1 ++ r) ∈ la.map (·.1)
theorem addL_keys {la : List KR} {k : List Str} {v : List (List Str)} {x : List Str} : x ∈ (addL la k v).map (·.1) ↔ x ∈ la.map (·.1) ∨ x = k := by
  unfold addL
  by_cases h : k ∈ la.map (·.1)
  · rw [if_pos h]
    constructor
    · exact .inl
    · rintro (z | rfl)
      · exact z
      · exact h
  · rw [if_neg h, List.map_append, List.mem_append]
    simp
section
variable {w : WW} {heavy : List Str} {kn la : List KR} {i : Nat}
theorem LP.start : LP w heavy kn 0 [] := ⟨List.nodup_nil, fun p h => (nomatch h), fun e h => by simp at h⟩
theorem LP.add (L : LP w heavy kn i la) {e : KR} (he : e ∈ kn) {r : List Str} (c : KM.Cs w r) (n : (e.1 ++ r).Nodup) (hv : ∀ k ∈ r, k ∈ heavy) : LP w heavy kn i (addL la (srtS (e.1 ++ r)) (e.2 ++ [r])) := by
  refine ⟨?_, fun p hp => ?_, fun x hx r hc hn hh => addL_keys.mpr (.inl (L.full x hx r hc hn hh))⟩
  · unfold addL
    by_cases h : srtS (e.1 ++ r) ∈ la.map (·.1)
    · rw [if_pos h]; exact L.nd
    · rw [if_neg h, List.map_append]
      refine List.nodup_append.mpr ⟨L.nd, by simp, fun x hx y hy e1 => ?_⟩
      have : y = srtS (e.1 ++ r) := by simpa using hy
      exact h (by rw [← this, ← e1]; exact hx)
  · unfold addL at hp
    by_cases h : srtS (e.1 ++ r) ∈ la.map (·.1)
    · rw [if_pos h] at hp; exact L.sound p hp
    · rw [if_neg h] at hp
      rcases List.mem_append.mp hp with hp | hp
      · exact L.sound p hp
      · rw [List.mem_singleton.mp hp]
        exact ⟨e, he, r, rfl, c, n, hv, rfl⟩
theorem LP.next {e : KR} {res : List (List Str × List Str)} (L : LP w heavy kn i la) (he : kn[i]? = some e) (En : KM.Ends srtS w heavy e.1 res) (h : ∀ p ∈ res, p.1 ∈ la.map (·.1)) : LP w heavy kn (i + 1) la := by
  refine ⟨L.nd, L.sound, fun x hx r hc hn hh => ?_⟩
  rw [List.take_add_one, he] at hx
  rcases List.mem_append.mp hx with hx | hx
  · exact L.full x hx r hc hn hh
  · have e1 : x = e := by simpa using hx
    subst e1
    obtain ⟨p, hp, e2⟩ := En.full r hc hn hh
    rw [← e2]
    exact h p hp
theorem LP.later (L : LP w heavy kn kn.length la) : KM.Later srtS heavy w kn la := ⟨L.sound, by
  have := L.full
  rw [List.take_length] at this
  exact this⟩
/-- all parts of a list -/
def subs : List Str → List (List Str)
  | [] => [[]]
  | x :: xs => subs xs ++ (subs xs).map (x :: ·)
theorem subs_len : ∀ l : List Str, (subs l).length = 2 ^ l.length
  | [] => rfl
  | x :: xs => by
    show (subs xs ++ (subs xs).map (x :: ·)).length = _
    rw [List.length_append, List.length_map, subs_len xs, List.length_cons, Nat.pow_succ]
    omega
theorem filter_subs (p : Str → Bool) : ∀ l : List Str, l.filter p ∈ subs l
  | [] => by simp [subs]
  | x :: xs => by
    show _ ∈ subs xs ++ (subs xs).map (x :: ·)
    rw [List.filter_cons]
    by_cases h : p x = true
    · rw [if_pos h]
      exact List.mem_append_right _ (List.mem_map.mpr ⟨_, filter_subs p xs, rfl⟩)
    · rw [if_neg h]
      exact List.mem_append_left _ (filter_subs p xs)
theorem nodup_lenG {α : Type} [DecidableEq α] {l m : List α} (n : l.Nodup) (h : ∀ x ∈ l, x ∈ m) : l.length ≤ m.length := by
  induction l generalizing m with
  | nil => exact Nat.zero_le _
  | cons x l ih =>
    obtain ⟨hx, hl⟩ := List.nodup_cons.mp n
    have hm := h x List.mem_cons_self
    have h1 := ih (m := m.erase x) hl fun y hy => (List.mem_erase_of_ne (fun e : y = x => hx (e ▸ hy))).mpr (h y (List.mem_cons_of_mem _ hy))
    have h2 := List.length_erase_of_mem hm
    have h3 : 0 < m.length := List.length_pos_of_mem hm
    rw [List.length_cons]
    omega
/-- keys that are sorted parts of heavy are few -/
theorem few_keys {ks : List (List Str)} (hn : heavy.Nodup) (n : ks.Nodup) (h : ∀ k ∈ ks, ∃ l : List Str, l.Nodup ∧ (∀ x ∈ l, x ∈ heavy) ∧ k = srtS l) : ks.length ≤ 2 ^ heavy.length := by
  have e0 : ((subs heavy).map srtS).length = 2 ^ heavy.length := by rw [List.length_map, subs_len]
  rw [← e0]
  refine nodup_lenG n fun k hk => ?_
  obtain ⟨l, nl, hl, rfl⟩ := h k hk
  refine List.mem_map.mpr ⟨heavy.filter fun x => decide (x ∈ l), filter_subs _ _, ?_⟩
  refine srtS_can ((List.perm_ext_iff_of_nodup (hn.sublist List.filter_sublist) nl).mpr fun x => ?_)
  rw [List.mem_filter, decide_eq_true_eq]
  exact ⟨fun z => z.2, fun z => ⟨hl x z, z⟩⟩
theorem known_few {ws : List WW} (hn : heavy.Nodup) (Kn : KM.Known srtS heavy ws kn) (n : (kn.map (·.1)).Nodup) : kn.length ≤ 2 ^ heavy.length := by
  have := few_keys hn n fun k hk => by
    obtain ⟨p, hp, rfl⟩ := List.mem_map.mp hk
    obtain ⟨R, e⟩ := Kn.sound p hp
    exact ⟨p.2.flatten, R.nd, R.hv, e⟩
  rwa [List.length_map] at this
theorem LP.few {ws : List WW} (hn : heavy.Nodup) (Kn : KM.Known srtS heavy ws kn) (L : LP w heavy kn i la) : la.length ≤ 2 ^ heavy.length := by
  have := few_keys hn L.nd fun k hk => by
    obtain ⟨p, hp, rfl⟩ := List.mem_map.mp hk
    obtain ⟨e, he, r, _, c, nd, hv, e1⟩ := L.sound p hp
    obtain ⟨R, ek⟩ := Kn.sound e he
    refine ⟨e.1 ++ r, nd, fun x hx => ?_, e1⟩
    rcases List.mem_append.mp hx with hx | hx
    · rw [ek] at hx
      exact R.hv x (KSrt.mem.mp hx)
    · exact hv x hx
  rwa [List.length_map] at this
end
end K8
end

section
set_option Elab.async false
set_option linter.all false
set_option maxRecDepth 100000
set_option maxHeartbeats 4000000
/-! K81: zip(a, b, strict=True), two tuples of one length. -/
namespace K8
open PySem PySem.Spec PyProof.Rows L2 RZ
abbrev IsZs (h : Heap) (z TI TO : Addr) (f0 : Value) : Prop :=
  h.get? z = some { cls := .type "zip", dict := none, data := .fields #[f0, .bool false, .bool true, .ref TI, .ref TO], slots := #[] }
section
variable {prog : Program} {w : World} {A : Around} {E : Value → Shared → Prop} {s : Shared}
theorem nextOrEnd_item {it l : Addr} {i : Nat} {items} {x : Value} {Q : Option Value → Shared → Prop} (hit : s.heap.IsTupleIter it l i)
    (hl : s.heap.IsTuple l items) (hx : items[i]? = some x)
    (hQ : ∀ h', h'.IsTupleIter it l (i + 1) → Heap.SameBut it s.heap h' → Q (some x) { s with heap := h' }) :
    wpAny (model prog w) A (Builtin.SmallTypes.nextOrEnd (.ref it)) Q E s := by
  unfold Builtin.SmallTypes.nextOrEnd
  exact wpAny_bind (wpAny_attempt (nextOf_tuple_item hit hl hx fun h' a b => wpAny_pure (hQ h' a b)))
theorem nextOrEnd_end {it l : Addr} {i : Nat} {items} {Q : Option Value → Shared → Prop} (hh : A.handled = none)
    (hit : s.heap.IsTupleIter it l i) (hl : s.heap.IsTuple l items) (hx : items[i]? = none)
    (hQ : ∀ h', Heap.ExtBut it s.heap h' → Q none { s with heap := h' }) :
    wpAny (model prog w) A (Builtin.SmallTypes.nextOrEnd (.ref it)) Q E s := by
  unfold Builtin.SmallTypes.nextOrEnd
  refine wpAny_bind (wpAny_attempt (nextOf_tuple_end hh hit hl hx fun h' e hs he => ?_))
  obtain ⟨o, ho, hc⟩ := he
  refine wpAny_bind (wpAny_isInstance (T := "StopIteration") (b := true) ⟨o, ho, hc⟩ isSubtype_stop ?_)
  exact wpAny_pure (hQ _ hs)
theorem zipS_next_item {z TI TO i1 i2 l1 l2 : Addr} {k1 k2 : Nat} {xs ys : Array Value} {x y a b : Value} {Q : Value → Shared → Prop} (D : ZipApart z TI TO i1 i2 l1 l2)
    (hz : IsZs s.heap z TI TO .none) (hTI : IsPair s.heap TI (.ref i1) (.ref i2)) (hTO : IsPair s.heap TO a b)
    (h1 : s.heap.IsTupleIter i1 l1 k1) (h2 : s.heap.IsTupleIter i2 l2 k2) (hl1 : s.heap.IsTuple l1 xs) (hl2 : s.heap.IsTuple l2 ys) (hx : xs[k1]? = some x) (hy : ys[k2]? = some y)
    (hQ : ∀ h', IsZs h' z TI TO (rawInt s.heap.objs.size) → IsPair h' TO x y → h'.IsTupleIter i1 l1 (k1 + 1) → h'.IsTupleIter i2 l2 (k2 + 1) → IsPair h' s.heap.objs.size x y → h'.objs.size = s.heap.objs.size + 1 →
      (∀ c o, c ≠ z → c ≠ TO → c ≠ i1 → c ≠ i2 → s.heap.get? c = some o → h'.get? c = some o) → Q (.ref s.heap.objs.size) { s with heap := h' }) :
    wpAny (model prog w) A (Builtin.«zip.__next__» ⟨[.ref z], []⟩) (fun fin s' => ∃ v, fin = .done (.ret v) ∧ Q v s') E s := by
  show wpAny _ _ (field (.ref z) 2 >>= _) _ _ _
  refine wpAny_bind (wpAny_field hz rfl (x := .bool true) rfl ?_)
  show wpAny _ _ (field (.ref z) 3 >>= _) _ _ _
  refine wpAny_bind (wpAny_field hz rfl (x := .ref TI) rfl ?_)
  refine wpAny_bind (wpAny_seqItems hTI rfl ?_)
  show wpAny _ _ (Builtin.SmallTypes.ownedTupleIsFree (.ref z) >>= _) _ _ _
  refine wpAny_bind ?_
  unfold Builtin.SmallTypes.ownedTupleIsFree
  refine wpAny_bind (wpAny_field hz rfl (x := .none) rfl (wpAny_pure ?_))
  simp only [if_true]
  refine wpAny_bind (wpAny_rule ?_)
  refine wpAny_bind (wpAny_field hz rfl (x := .ref TO) rfl ?_)
  refine wpAny_bind (wpAny_setField_rec hz (by simp) fun h₁ hz₁ hs₁ => ?_)
  replace hz₁ : IsZs h₁ z TI TO .ellipsis := hz₁
  refine wpAny_bind ?_
  simp only [List.zipIdx_cons, List.zipIdx_nil, List.forIn_cons, List.forIn_nil]

  refine wpAny_bind (wpAny_bind (wpAny_onRaise ?_))
  show wpAny _ _ (Builtin.SmallTypes.nextOrEnd (.ref i1)) _ _ _
  refine nextOrEnd_item (h1.extBut hs₁.extBut D.i1z) (hl1.extBut hs₁.extBut D.l1z) hx fun h₂ h1₂ hs₂ => ?_
  have hTO₂ : IsPair h₂ TO a b := hs₂.extBut _ _ D.TOi1 (hs₁.extBut _ _ D.TOz hTO)
  refine wpAny_bind (wpAny_seqItems hTO₂ rfl ?_)
  refine wpAny_bind (wpAny_updateSeq_pair hTO₂ fun h₃ hTO₃ hs₃ => ?_)
  replace hTO₃ : IsPair h₃ TO x b := hTO₃
  refine wpAny_bind (wpAny_letGo (wpAny_pure ?_))

  refine wpAny_bind (wpAny_bind (wpAny_onRaise ?_))
  show wpAny _ _ (Builtin.SmallTypes.nextOrEnd (.ref i2)) _ _ _
  refine nextOrEnd_item (((h2.extBut hs₁.extBut D.i2z).extBut hs₂.extBut D.i12.symm).extBut hs₃.extBut D.TOi2.symm)
    (((hl2.extBut hs₁.extBut D.l2z).extBut hs₂.extBut D.l2i1).extBut hs₃.extBut D.l2TO) hy fun h₄ h2₄ hs₄ => ?_
  have hTO₄ : IsPair h₄ TO x b := hs₄.extBut _ _ D.TOi2 hTO₃
  refine wpAny_bind (wpAny_seqItems hTO₄ rfl ?_)
  refine wpAny_bind (wpAny_updateSeq_pair hTO₄ fun h₅ hTO₅ hs₅ => ?_)
  replace hTO₅ : IsPair h₅ TO x y := hTO₅
  refine wpAny_bind (wpAny_letGo (wpAny_pure (wpAny_pure ?_)))

  refine wpAny_bind (wpAny_seqItems hTO₅ rfl ?_)
  refine wpAny_bind (wpAny_newTuple ?_)
  have hsz : h₅.objs.size = s.heap.objs.size := by rw [hs₅.1, hs₄.1, hs₃.1, hs₂.1, hs₁.1]
  have hz₅ : IsZs h₅ z TI TO .ellipsis := hs₅.extBut _ _ D.TOz.symm (hs₄.extBut _ _ D.i2z.symm (hs₃.extBut _ _ D.TOz.symm (hs₂.extBut _ _ D.i1z.symm hz₁)))
  have hk₅ : ∀ c o, c ≠ z → c ≠ TO → c ≠ i1 → c ≠ i2 → s.heap.get? c = some o → h₅.get? c = some o := fun c o c1 c2 c3 c4 e =>
    hs₅.extBut _ _ c2 (hs₄.extBut _ _ c4 (hs₃.extBut _ _ c2 (hs₂.extBut _ _ c3 (hs₁.extBut _ _ c1 e))))
  have h1₅ : h₅.IsTupleIter i1 l1 (k1 + 1) := ((h1₂.extBut hs₃.extBut D.TOi1.symm).extBut hs₄.extBut D.i12).extBut hs₅.extBut D.TOi1.symm
  have h2₅ : h₅.IsTupleIter i2 l2 (k2 + 1) := h2₄.extBut hs₅.extBut D.TOi2.symm
  have hzlt : z < h₅.objs.size := Heap.lt_size hz₅
  show wpAny _ _ (Builtin.SmallTypes.ownedTupleHandOut (.ref z) (.ref h₅.objs.size) >>= _) _ _ _
  refine wpAny_bind ?_
  unfold Builtin.SmallTypes.ownedTupleHandOut
  have hz₆ : IsZs (h₅.push { cls := .type "tuple", data := .seq #[x, y] }) z TI TO .ellipsis := Heap.get?_push_of_some _ hz₅
  refine wpAny_bind (wpAny_setField_rec hz₆ (by simp) fun h₇ hz₇ hs₇ => ?_)
  replace hz₇ : IsZs h₇ z TI TO (rawInt h₅.objs.size) := hz₇
  refine wpAny_setField_rec hz₇ (by simp) fun h₈ hz₈ hs₈ => ?_
  replace hz₈ : IsZs h₈ z TI TO (rawInt h₅.objs.size) := hz₈
  have up : ∀ c o, c ≠ z → h₅.get? c = some o → h₈.get? c = some o := fun c o c1 e => hs₈.extBut _ _ c1 (hs₇.extBut _ _ c1 (Heap.get?_push_of_some _ e))
  have hT₈ : IsPair h₈ h₅.objs.size x y := hs₈.extBut _ _ (Nat.ne_of_gt hzlt) (hs₇.extBut _ _ (Nat.ne_of_gt hzlt) (Heap.get?_push_size _ rfl))
  have hz8 : h₈.objs.size = h₅.objs.size + 1 := by rw [hs₈.1, hs₇.1, Heap.size_push]
  rw [hsz] at hz₈ hT₈ hz8
  refine wpAny_pure ⟨_, rfl, ?_⟩
  show Q (.ref h₅.objs.size) _
  rw [hsz]
  exact hQ h₈ hz₈ (up _ _ D.TOz hTO₅) (h1₅.at fun o e => up _ o D.i1z e) (h2₅.at fun o e => up _ o D.i2z e) hT₈ hz8 fun c o c1 c2 c3 c4 e => up c o c1 (hk₅ c o c1 c2 c3 c4 e)
theorem zipS_next_end {z TI TO i1 i2 l1 l2 : Addr} {k1 k2 : Nat} {xs ys : Array Value} {a b : Value} {Q : PySem.Fin → Shared → Prop} (hh : A.handled = none) (D : ZipApart z TI TO i1 i2 l1 l2)
    (hz : IsZs s.heap z TI TO .none) (hTI : IsPair s.heap TI (.ref i1) (.ref i2)) (hTO : IsPair s.heap TO a b)
    (h1 : s.heap.IsTupleIter i1 l1 k1) (h2 : s.heap.IsTupleIter i2 l2 k2) (hl1 : s.heap.IsTuple l1 xs) (hl2 : s.heap.IsTuple l2 ys) (hx : xs[k1]? = none) (hy : ys[k2]? = none)
    (hE : ∀ h' e, (∀ c o, c ≠ z → c ≠ TO → c ≠ i1 → c ≠ i2 → s.heap.get? c = some o → h'.get? c = some o) → (∃ o, h'.get? e = some o ∧ o.cls = .type "StopIteration") → E (.ref e) { s with heap := h' }) :
    wpAny (model prog w) A (Builtin.«zip.__next__» ⟨[.ref z], []⟩) Q E s := by
  show wpAny _ _ (field (.ref z) 2 >>= _) _ _ _
  refine wpAny_bind (wpAny_field hz rfl (x := .bool true) rfl ?_)
  show wpAny _ _ (field (.ref z) 3 >>= _) _ _ _
  refine wpAny_bind (wpAny_field hz rfl (x := .ref TI) rfl ?_)
  refine wpAny_bind (wpAny_seqItems hTI rfl ?_)
  show wpAny _ _ (Builtin.SmallTypes.ownedTupleIsFree (.ref z) >>= _) _ _ _
  refine wpAny_bind ?_
  unfold Builtin.SmallTypes.ownedTupleIsFree
  refine wpAny_bind (wpAny_field hz rfl (x := .none) rfl (wpAny_pure ?_))
  simp only [if_true]
  refine wpAny_bind (wpAny_rule ?_)
  refine wpAny_bind (wpAny_field hz rfl (x := .ref TO) rfl ?_)
  refine wpAny_bind (wpAny_setField_rec hz (by simp) fun h₁ hz₁ hs₁ => ?_)
  replace hz₁ : IsZs h₁ z TI TO .ellipsis := hz₁
  refine wpAny_bind ?_
  simp only [List.zipIdx_cons, List.zipIdx_nil, List.forIn_cons, List.forIn_nil]
  refine wpAny_bind (wpAny_bind (wpAny_onRaise ?_))
  show wpAny _ _ (Builtin.SmallTypes.nextOrEnd (.ref i1)) _ _ _
  refine nextOrEnd_end hh (h1.extBut hs₁.extBut D.i1z) (hl1.extBut hs₁.extBut D.l1z) hx fun h₂ hs₂ => ?_
  have hz₂ : IsZs h₂ z TI TO .ellipsis := hs₂ _ _ D.i1z.symm hz₁
  refine wpAny_bind (wpAny_setField_rec hz₂ (by simp) fun h₃ hz₃ hs₃ => ?_)
  refine wpAny_bind ?_
  generalize (fun a s' => wpAny (model prog w) A (pure (ForInStep.done (some a, ()))) _ E s') = QQ
  refine wpAny_bind ?_
  simp only [List.drop_succ_cons, List.drop_zero, List.zipIdx_cons, List.zipIdx_nil, List.forIn_cons, List.forIn_nil]
  refine wpAny_bind (wpAny_bind ?_)
  refine nextOrEnd_end hh (((h2.extBut hs₁.extBut D.i2z).extBut hs₂ D.i12.symm).extBut hs₃.extBut D.i2z) (((hl2.extBut hs₁.extBut D.l2z).extBut hs₂ D.l2i1).extBut hs₃.extBut D.l2z) hy fun h₄ hs₄ => ?_
  simp only [Option.isSome_none, Bool.false_eq_true, if_false]
  refine wpAny_pure (wpAny_pure ?_)
  refine wpAny_bind (wpAny_rule ?_)
  show wpAny _ _ (newExc (.type "StopIteration") [] >>= _) _ _ _
  refine wpAny_bind ?_
  simp only [newExc, newTuple]
  refine wpAny_bind (wpAny_newObj_type ?_ (by size_fits))
  refine wpAny_bind (m := firstArgMember _ _) (wpAny_of_eq (a := Value.none) (by first | rfl | (simp only [firstArgMember]; rfl)) ?_)
  refine wpAny_newObj_type ?_ (by size_fits)
  simp only [raiseNew]
  refine wpAny_bind (wpAny_handled ?_)
  rw [hh]
  refine wpAny_bind (wpAny_pure (wpAny_throw ?_))
  exact hE _ _ (fun c o c1 _ c3 c4 x => Heap.get?_push_of_some _ (Heap.get?_push_of_some _ (hs₄ _ _ c4 (hs₃.extBut _ _ c1 (hs₂ _ _ c3 (hs₁.extBut _ _ c1 x)))))) ⟨_, Heap.get?_push_size _ rfl, rfl⟩
theorem pyNext_zipS_item {z TI TO i1 i2 l1 l2 : Addr} {k1 k2 : Nat} {xs ys : Array Value} {x y a b : Value} {Q : Option Value → Shared → Prop} (D : ZipApart z TI TO i1 i2 l1 l2)
    (hz : IsZs s.heap z TI TO .none) (hTI : IsPair s.heap TI (.ref i1) (.ref i2)) (hTO : IsPair s.heap TO a b)
    (h1 : s.heap.IsTupleIter i1 l1 k1) (h2 : s.heap.IsTupleIter i2 l2 k2) (hl1 : s.heap.IsTuple l1 xs) (hl2 : s.heap.IsTuple l2 ys) (hx : xs[k1]? = some x) (hy : ys[k2]? = some y)
    (hQ : ∀ h', IsZs h' z TI TO (rawInt s.heap.objs.size) → IsPair h' TO x y → h'.IsTupleIter i1 l1 (k1 + 1) → h'.IsTupleIter i2 l2 (k2 + 1) → IsPair h' s.heap.objs.size x y → h'.objs.size = s.heap.objs.size + 1 →
      (∀ c o, c ≠ z → c ≠ TO → c ≠ i1 → c ≠ i2 → s.heap.get? c = some o → h'.get? c = some o) → Q (some (.ref s.heap.objs.size)) { s with heap := h' }) :
    wpAny (model prog w) A (pyNext (.ref z)) Q E s := by
  have hT : s.TypeIs (.ref z) "zip" := ⟨_, hz, rfl⟩
  unfold pyNext
  exact wpAny_bind (wpAny_attempt (wpAny_callSpecial?_slot (name := Str.ofString "__next__") hT F.slot_zip_next
    (wpAny_call_entry F.slot_zip_next hT F.entry_zip_next
      (zipS_next_item D hz hTI hTO h1 h2 hl1 hl2 hx hy fun h' a1 a2 a3 a4 a5 a6 a7 => wpAny_pure (hQ h' a1 a2 a3 a4 a5 a6 a7)) (F.args_zip_next_1 _))))
theorem pyNext_zipS_end {z TI TO i1 i2 l1 l2 : Addr} {k1 k2 : Nat} {xs ys : Array Value} {a b : Value} {Q : Option Value → Shared → Prop} (hh : A.handled = none) (D : ZipApart z TI TO i1 i2 l1 l2)
    (hz : IsZs s.heap z TI TO .none) (hTI : IsPair s.heap TI (.ref i1) (.ref i2)) (hTO : IsPair s.heap TO a b)
    (h1 : s.heap.IsTupleIter i1 l1 k1) (h2 : s.heap.IsTupleIter i2 l2 k2) (hl1 : s.heap.IsTuple l1 xs) (hl2 : s.heap.IsTuple l2 ys) (hx : xs[k1]? = none) (hy : ys[k2]? = none)
    (hQ : ∀ h', (∀ c o, c ≠ z → c ≠ TO → c ≠ i1 → c ≠ i2 → s.heap.get? c = some o → h'.get? c = some o) → Q none { s with heap := h' }) : wpAny (model prog w) A (pyNext (.ref z)) Q E s := by
  have hT : s.TypeIs (.ref z) "zip" := ⟨_, hz, rfl⟩
  unfold pyNext
  refine wpAny_bind (wpAny_attempt (wpAny_callSpecial?_slot (name := Str.ofString "__next__") hT F.slot_zip_next
    (wpAny_call_entry F.slot_zip_next hT F.entry_zip_next (zipS_next_end hh D hz hTI hTO h1 h2 hl1 hl2 hx hy fun h' e hk he => ?_) (F.args_zip_next_1 _))))
  obtain ⟨o, ho, hc⟩ := he
  refine wpAny_bind (wpAny_isInstance (T := "StopIteration") (b := true) ⟨o, ho, hc⟩ isSubtype_stop ?_)
  exact wpAny_pure (hQ _ hk)
theorem letGo_zipS {elts : List Expr} {x1} {pos : Pos} {z TI TO T : Addr} {Q : Unit → Shared → Prop} (hz : IsZs s.heap z TI TO (rawInt T))
    (hQ : ∀ h', IsZs h' z TI TO .none → Heap.SameBut z s.heap h' → Q () { s with heap := h' }) :
    wpAny (model prog w) A (letOwnedTupleGo (.Tuple elts x1 pos) (.ref z) (.ref T)) Q E s := by
  unfold letOwnedTupleGo
  refine wpAny_bind (wpAny_load hz ?_)
  show wpAny _ _ (if (["enumerate", "zip", "dict_itemiterator", "dict_reverseitemiterator", "odict_iterator", "itertools.zip_longest", "itertools.pairwise"].contains "zip" &&
      (#[rawInt T, .bool false, .bool true, .ref TI, .ref TO] : Array Value)[0]? == some (rawInt T)) = true then _ else _) Q E s
  rw [if_pos (by simp)]
  refine wpAny_bind (wpAny_rule ?_)
  show wpAny _ _ (setField (.ref z) 0 .none) Q E s
  exact wpAny_setField_rec hz (by simp) fun h' hz' hs' => hQ h' hz' hs'
theorem iter_zipS {z TI TO : Addr} {f0 : Value} {Q : Value → Shared → Prop} (hz : IsZs s.heap z TI TO f0) (h : Q (.ref z) s) : wpAny (model prog w) A (pyIter (.ref z)) Q E s := by
  have hT : s.TypeIs (.ref z) "zip" := ⟨_, hz, rfl⟩
  refine wpAny_pyIter_slot hT F.slot_zip_iter (wpAny_call_entry F.slot_zip_iter hT F.entry_zip_iter ?_ (F.args_zip_iter_1 _))
  show wpAny _ _ (ret (.ref z)) _ _ s
  exact wpAny_pure ⟨_, rfl, "zip", _, hT, F.slot_zip_next.lookup, h⟩
end
abbrev zsH1 (h : Heap) (l1 : Addr) : Heap := h.push { cls := .type "tuple_iterator", data := .fields #[.ref l1, .int 0 0] }
abbrev zsH2 (h : Heap) (l1 l2 : Addr) : Heap := (zsH1 h l1).push { cls := .type "tuple_iterator", data := .fields #[.ref l2, .int 0 0] }
abbrev zsH3 (h : Heap) (l1 l2 : Addr) : Heap := (zsH2 h l1 l2).push { cls := .type "tuple", data := .seq #[.ref h.objs.size, .ref (zsH1 h l1).objs.size] }
abbrev zsH4 (h : Heap) (l1 l2 : Addr) : Heap := (zsH3 h l1 l2).push { cls := .type "tuple", data := .seq #[.none, .none] }
abbrev zsH5 (h : Heap) (l1 l2 : Addr) : Heap := (zsH4 h l1 l2).push { cls := .type "zip", data := .fields #[.none, .bool false, .bool true, .ref (zsH2 h l1 l2).objs.size, .ref (zsH3 h l1 l2).objs.size] }
theorem meets_zipS_new (l1 l2 : Addr) (xs ys : Array Value) :
    Meets (Builtin.«zip.__new__» ⟨[.type "zip", .ref l1, .ref l2], [(Str.ofString "strict", .bool true)]⟩) (fun _ R s => s.heap.IsTuple l1 xs ∧ s.heap.IsTuple l2 ys ∧
      R (.ok (.ret (.ref (zsH4 s.heap l1 l2).objs.size))) { s with heap := zsH5 s.heap l1 l2 }) :=
  .of_wp fun prog w A R s h => by
    obtain ⟨hp, g, d, tk, os⟩ := s; obtain ⟨hl1, hl2, h⟩ := h
    have hsub := sub_zip
    have hL1 : Heap.IsTuple (Shared.heap ⟨hp, g, d, tk, os⟩) l1 xs := hl1
    have hL2 : Heap.IsTuple (Shared.heap ⟨hp.push { cls := .type "tuple_iterator", data := .fields #[.ref l1, .int 0 0] }, g, d, tk, os⟩) l2 ys := Heap.IsTuple.push hl2 _
    have e1 : (Str.ofString "strict" == ("strict" : Str)) = true := by decide +kernel
    have e2 : (Str.ofString "strict" != ("strict" : Str)) = false := by decide +kernel
    wp_walk using wpAny_pyIter_tuple hL1, wpAny_pyIter_tuple hL2
    exact ⟨_, rfl, h⟩
theorem typeCall_zipS (a b c : Value) : checkTypeCall "zip" ⟨[a, b], [(Str.ofString "strict", c)]⟩ = pure () := by kernel_rfl
theorem newCall_zipS (a b c : Value) : checkBuiltinCall "zip.__new__" ⟨[.type "zip", a, b], [(Str.ofString "strict", c)]⟩ = pure () := by kernel_rfl
theorem args_initS (obj a b c : Value) : argsOk "object.__init__" ⟨[obj, a, b], [(Str.ofString "strict", c)]⟩ := by unfold argsOk; kernel_rfl
section
variable {prog : Program} {w : World} {A : Around} {E : Value → Shared → Prop} {s : Shared}
theorem call_zipS {l1 l2 : Addr} {xs ys : Array Value} {Q : Value → Shared → Prop} (hl1 : s.heap.IsTuple l1 xs) (hl2 : s.heap.IsTuple l2 ys)
    (h : ∀ h', IsZs h' (s.heap.objs.size + 4) (s.heap.objs.size + 2) (s.heap.objs.size + 3) .none → IsPair h' (s.heap.objs.size + 2) (.ref s.heap.objs.size) (.ref (s.heap.objs.size + 1)) →
      IsPair h' (s.heap.objs.size + 3) .none .none → h'.IsTupleIter s.heap.objs.size l1 0 → h'.IsTupleIter (s.heap.objs.size + 1) l2 0 → h'.objs.size = s.heap.objs.size + 5 →
      (∀ c o, s.heap.get? c = some o → h'.get? c = some o) → Q (.ref (s.heap.objs.size + 4)) { s with heap := h' }) :
    wpAny (model prog w) A (call (.type "zip") [.ref l1, .ref l2] [(Str.ofString "strict", .bool true)]) Q E s := by
  refine callType_newKw F.called_zip (by decide) (typeCall_zipS _ _ _) (newCall_zipS _ _ _) (fun obj => args_initS obj _ _ _) F.entry_zip_new
    (meets_zipS_new l1 l2 xs ys) ⟨hl1, hl2, ?_⟩
  have z1 : (zsH1 s.heap l1).objs.size = s.heap.objs.size + 1 := Heap.size_push ..
  have z2 : (zsH2 s.heap l1 l2).objs.size = s.heap.objs.size + 2 := by rw [Heap.size_push, z1]
  have z3 : (zsH3 s.heap l1 l2).objs.size = s.heap.objs.size + 3 := by rw [Heap.size_push, z2]
  have z4 : (zsH4 s.heap l1 l2).objs.size = s.heap.objs.size + 4 := by rw [Heap.size_push, z3]
  have z5 : (zsH5 s.heap l1 l2).objs.size = s.heap.objs.size + 5 := by rw [Heap.size_push, z4]
  have g5 : (zsH5 s.heap l1 l2).get? (zsH4 s.heap l1 l2).objs.size = some _ := Heap.get?_push_size _ rfl
  have g4 : (zsH5 s.heap l1 l2).get? (zsH3 s.heap l1 l2).objs.size = some _ := Heap.get?_push_of_some _ (Heap.get?_push_size _ rfl)
  have g3 : (zsH5 s.heap l1 l2).get? (zsH2 s.heap l1 l2).objs.size = some _ := Heap.get?_push_of_some _ (Heap.get?_push_of_some _ (Heap.get?_push_size _ rfl))
  have g2 : (zsH5 s.heap l1 l2).get? (zsH1 s.heap l1).objs.size = some _ := Heap.get?_push_of_some _ (Heap.get?_push_of_some _ (Heap.get?_push_of_some _ (Heap.get?_push_size _ rfl)))
  have g1 : (zsH5 s.heap l1 l2).get? s.heap.objs.size = some _ := Heap.get?_push_of_some _ (Heap.get?_push_of_some _ (Heap.get?_push_of_some _ (Heap.get?_push_of_some _ (Heap.get?_push_size _ rfl))))
  show _ ∧ _
  rw [z2, z3, z4] at g5
  rw [z1, z2] at g3
  rw [z3] at g4
  rw [z1] at g2
  rw [z4]
  exact ⟨⟨_, g5, rfl⟩, h _ g5 g3 g4 ⟨_, g1, rfl, rfl⟩ ⟨_, g2, rfl, rfl⟩ z5 fun c o x =>
    Heap.get?_push_of_some _ (Heap.get?_push_of_some _ (Heap.get?_push_of_some _ (Heap.get?_push_of_some _ (Heap.get?_push_of_some _ x))))⟩
end
/-- the tuples at a and b of one length, the items in new pairs -/
def ItzS (K : PySem.W.Frag) (a b : Addr) : It :=
  ⟨fun i H => ∃ (xs ys : List V) (x y : V), SqT K H a xs ∧ SqT K H b ys ∧ xs[i]? = some x ∧ ys[i]? = some y,
    fun i H v H' => ∃ T x y, v = .ref T ∧ H T = none ∧ H' = upd H T (.tup [x, y]) ∧ (∀ xs, SqT K H a xs → xs[i]? = some x) ∧ ∀ ys, SqT K H b ys → ys[i]? = some y,
    fun i H => ∃ xs ys : List V, SqT K H a xs ∧ SqT K H b ys ∧ xs.length ≤ i ∧ ys.length ≤ i⟩
theorem turn_zipS {P : Program} {w : World} {K : PySem.W.Frag} {elts : List Expr} {kk : Nat} {tpos : Pos} {a b z TI TO i1 i2 : Addr} (D : ZipApart z TI TO i1 i2 a b) :
    Turn P w K (.Tuple elts kk tpos) (ItzS K a b) [z, TI, TO, i1, i2] z (fun i h => IsZs h z TI TO .none ∧ IsPair h TI (.ref i1) (.ref i2) ∧ (∃ x y, IsPair h TO x y) ∧ h.IsTupleIter i1 a i ∧ h.IsTupleIter i2 b i) where
  mem := by simp
  obj := fun i h st c hc => by
    obtain ⟨hz, hTI, ⟨x, y, hTO⟩, ⟨o1, e1, _, d1⟩, ⟨o2, e2, _, d2⟩⟩ := st
    have e' : c = z ∨ c = TI ∨ c = TO ∨ c = i1 ∨ c = i2 := by simpa using hc
    rcases e' with q | q | q | q | q
    · rw [q]; exact ⟨_, hz, fun v q => nomatch q⟩
    · rw [q]; exact ⟨_, hTI, fun v q => nomatch q⟩
    · rw [q]; exact ⟨_, hTO, fun v q => nomatch q⟩
    · rw [q]; exact ⟨o1, e1, fun v q => by rw [d1] at q; cases q⟩
    · rw [q]; exact ⟨o2, e2, fun v q => by rw [d2] at q; cases q⟩
  keep := fun i h h' st k => by
    obtain ⟨hz, hTI, ⟨x, y, hTO⟩, h1, h2⟩ := st
    exact ⟨k z (by simp) _ hz, k TI (by simp) _ hTI, ⟨x, y, k TO (by simp) _ hTO⟩, h1.at fun o q => k i1 (by simp) o q, h2.at fun o q => k i2 (by simp) o q⟩
  item := by
    intro X hP hw hK hc i pins s σ H E I hf st hg
    subst hP hw hK
    obtain ⟨hz, hTI, ⟨x0, y0, hTO⟩, h1, h2⟩ := st
    obtain ⟨xs, ys, x, y, hqx, hqy, hx, hy⟩ := hg
    obtain ⟨its, rv, p, _⟩ := I.tuple hqx
    obtain ⟨its2, rv2, p2, _⟩ := I.tuple hqy
    obtain ⟨u, hu, ru⟩ := rv.get hx
    obtain ⟨u2, hu2, ru2⟩ := rv2.get hy
    have hzl : z < s.heap.objs.size := Heap.lt_size hz
    refine pyNext_zipS_item D hz hTI hTO h1 h2 p p2 (x := u) (y := u2) (by simpa using hu) (by simpa using hu2) fun h' z' TO' h1' h2' hT hsz hk => ?_
    refine ⟨_, rfl, letGo_zipS (s := { s with heap := h' }) z' fun h'' z'' sb => ?_⟩
    have hT2 : h''.get? s.heap.objs.size = some { cls := .type "tuple", data := .seq #[u, u2] } := (sb.2 _ (Nat.ne_of_gt hzl)).trans hT
    have new : ObjOk X.prog X.w (upd H s.heap.objs.size (.tup [x, y])) h'' s.heap.objs.size (.tup [x, y]) :=
      ⟨by show 2 ≤ sizeLine; decide, [u, u2], .cons ru (.cons ru2 .nil), ⟨_, hT2, rfl, _, rfl⟩⟩
    have I1 : Inv X pins σ (upd H s.heap.objs.size (.tup [x, y])) { s with heap := h'' } :=
      I.turnedNew (t' := s.toks) (ch := [z, TI, TO, i1, i2]) (fun c o hb q => (sb.2 c (fun q' => hb (by simp [q']))).trans (hk c o (fun q' => hb (by simp [q'])) (fun q' => hb (by simp [q'])) (fun q' => hb (by simp [q'])) (fun q' => hb (by simp [q'])) q)) hf (Nat.le_refl _) new
    refine ⟨.ref s.heap.objs.size, _, I1, rfl, ⟨_, x, y, rfl, I.hok.fresh (Nat.le_refl _), rfl, fun l hl => by rw [I.tuple_inj hl hqx]; exact hx, fun l hl => by rw [I.tuple_inj hl hqy]; exact hy⟩, ⟨z'', ?_, ⟨u, u2, ?_⟩, ?_, ?_⟩, fun c hcm => ?_⟩
    · exact (sb.2 _ D.TIz).trans (hk _ _ D.TIz D.TITO D.TIi1 D.TIi2 hTI)
    · exact (sb.2 _ D.TOz).trans TO'
    · exact h1'.at fun o q => (sb.2 _ D.i1z).trans q
    · exact h2'.at fun o q => (sb.2 _ D.i2z).trans q
    · have hlt : c < s.heap.objs.size := by
        have e' : c = z ∨ c = TI ∨ c = TO ∨ c = i1 ∨ c = i2 := by simpa using hcm
        rcases e' with q | q | q | q | q
        · rw [q]; exact hzl
        · rw [q]; exact Heap.lt_size hTI
        · rw [q]; exact Heap.lt_size hTO
        · rw [q]; obtain ⟨_, e1, _⟩ := h1; exact Heap.lt_size e1
        · rw [q]; obtain ⟨_, e2, _⟩ := h2; exact Heap.lt_size e2
      rw [upd_ne (Nat.ne_of_lt hlt)]
      exact (hf c hcm).1
  done := by
    intro X hP hw hK hc i pins s σ H E I hf st hg
    subst hP hw hK
    obtain ⟨hz, hTI, ⟨x0, y0, hTO⟩, h1, h2⟩ := st
    obtain ⟨xs, ys, hqx, hqy, he1, he2⟩ := hg
    obtain ⟨its, rv, p, _⟩ := I.tuple hqx
    obtain ⟨its2, rv2, p2, _⟩ := I.tuple hqy
    have l1 := rv.length
    have l2 := rv2.length
    exact pyNext_zipS_end (I.ok.hd hc) D hz hTI hTO h1 h2 p p2 (by simp; omega) (by simp; omega) fun h' hk => ⟨rfl, I.turnedL (t' := s.toks) (ch := [z, TI, TO, i1, i2]) (fun c o hb q =>
      hk c o (fun q' => hb (by simp [q'])) (fun q' => hb (by simp [q'])) (fun q' => hb (by simp [q'])) (fun q' => hb (by simp [q'])) q) hf⟩
  self := fun A i s Q E st h => iter_zipS st.1 h
theorem callWith_typeKw {M : Model} {A : Around} {E : Value → Shared → Prop} {s : Shared} {pos : Pos} {T : String} {args : List (Bool × Sem Value)} {keywords : List (Option Str × Sem Value)} {Q : Value → Shared → Prop}
    (hplain : args.any (·.1) = false) (hkw : keywords.any (·.1.isNone) = false)
    (h : wpAny M A (evalArgs (.type T) true args keywords) (fun a s₁ => wpAny M A (call (.type T) a.pos a.kw) Q E s₁) E s) :
    wpAny M A (callWith pos (.type T) [] args keywords) Q E s := by
  unfold callWith
  refine wpAny_bind (wpAny_holding (wpAny_mono h (fun a s₁ h₁ => wpAny_bind (wpAny_standAt ?_)) fun _ _ x => x))
  simp only [hplain, hkw, Bool.or_false]
  refine wpAny_bind (wpAny_pure ?_)
  exact wpAny_bind (wpAny_mono h₁ (fun r s₂ hr => wpAny_bind (wpAny_holding (wpAny_point (wpAny_pure hr)))) fun _ _ x => x)
def iZipS (K : PySem.W.Frag) (ta : TA) : TI := fun σ H R => ta σ H fun vs H1 => ∃ a b xs ys, vs = [.ref a, .ref b] ∧ SqT K H1 a xs ∧ SqT K H1 b ys ∧ R (ItzS K a b) H1
theorem pi_zipS {X : Cx} {e e2 : Expr} {ta : TA} {p pos tpos kp cp : Pos} {elts : List Expr} {kk ck : Nat} (hg : Gl X "zip") (hm : X.mg "zip" = none) (ha : PA X [e, e2] ta)
    (he : eval (.Call (.Name "zip" p) [e, e2] [⟨some "strict", .Constant (.bool true) ck cp, kp⟩] pos) X.env = (do callWith pos (← eval (.Name "zip" p) X.env) [] (backTo pos (starEach [e, e2] X.env)) (backToKw pos (keywordEach [⟨some "strict", .Constant (.bool true) ck cp, kp⟩] X.env))) := by rfl)
    (hs : starEach [e, e2] X.env = (false, eval e X.env) :: starEach [e2] X.env := by rfl) (hpl : (backTo pos (starEach [e, e2] X.env)).any (·.1) = false := by rfl) :
    PI X (.Tuple elts kk tpos) (.Call (.Name "zip" p) [e, e2] [⟨some "strict", .Constant (.bool true) ck cp, kp⟩] pos) (iZipS X.K ta) := by
  refine ⟨fun pins s σ H R I h => ?_⟩
  rw [he]
  refine wpAny_bind (ld_blt I hg hm PyProof.Rows.boot_zip (callWith_typeKw hpl rfl ?_))
  have h1 := ha.run pos pins s σ H _ I h
  have hs' : backTo pos (starEach [e, e2] X.env) = (false, eval e X.env) :: backTo pos (starEach [e2] X.env) := by rw [hs]; rfl
  rw [hs'] at h1 ⊢
  refine evalArgs_kwB rfl (thn h1 fun us s1 ⟨vs, H1, I1, r1, q1⟩ => ?_)
  refine kws_cons (wpAny_pure (kws_nil ?_))
  obtain ⟨a, b, xs, ys, ex, hqx, hqy, q⟩ := q1
  subst ex
  cases r1 with
  | cons r rr =>
    cases rr with
    | cons r' rr =>
      cases rr
      cases r
      cases r'
      have fresh5 : ∀ c, c ∈ [s1.heap.objs.size + 4, s1.heap.objs.size + 2, s1.heap.objs.size + 3, s1.heap.objs.size, s1.heap.objs.size + 1] → FpOk X pins H1 c := fun c hcm => by
        have e' : c = s1.heap.objs.size + 4 ∨ c = s1.heap.objs.size + 2 ∨ c = s1.heap.objs.size + 3 ∨ c = s1.heap.objs.size ∨ c = s1.heap.objs.size + 1 := by simpa using hcm
        have hle : s1.heap.objs.size ≤ c := by
          rcases e' with z | z | z | z | z
          · rw [z]; exact Nat.le_add_right _ _
          · rw [z]; exact Nat.le_add_right _ _
          · rw [z]; exact Nat.le_add_right _ _
          · rw [z]; exact Nat.le_refl _
          · rw [z]; exact Nat.le_add_right _ _
        exact I1.fpOk hle (I1.hok.fresh hle)
      obtain ⟨its, rv, p1, _⟩ := I1.tuple hqx
      obtain ⟨its2, rv2, p2, _⟩ := I1.tuple hqy
      obtain ⟨o1, ho1, _⟩ := id p1
      obtain ⟨o2, ho2, _⟩ := id p2
      refine call_zipS (show s1.heap.IsTuple a its.toArray from p1) (show s1.heap.IsTuple b its2.toArray from p2) fun h' hz hTI hTO h1 h2 hsz hk => iter_zipS hz ?_
      have I2 : Inv X pins σ H1 { s1 with heap := h' } := I1.kept (t' := s1.toks) hk
      exact ⟨s1.heap.objs.size + 4, [s1.heap.objs.size + 4, s1.heap.objs.size + 2, s1.heap.objs.size + 3, s1.heap.objs.size, s1.heap.objs.size + 1], _, _, H1, rfl, I2, turn_zipS (PySem.W.ktu_apart s1.heap.objs.size a b (Heap.lt_size ho1) (Heap.lt_size ho2)), ⟨hz, hTI, ⟨_, _, hTO⟩, h1, h2⟩, fresh5, q⟩
/-- a loop over zip(a, b, strict=True) -/
theorem for_zipS {K : PySem.W.Frag} {a b : Addr} {xs ys : List V} {g : TG} {tb : TS} {D : L2.Ends} {σ : L2.St} {H : Hp} (hl : xs.length = ys.length) (Pv : Nat → L2.St → Hp → Prop) (h0 : Pv 0 σ H) (hq : ∀ i σ H, Pv i σ H → SqT K H a xs ∧ SqT K H b ys)
    (hs : ∀ (i : Nat) (x y : V) (T : Addr) (σ : L2.St) (H : Hp), xs[i]? = some x → ys[i]? = some y → Pv i σ H → H T = none → g (.ref T) σ (upd H T (.tup [x, y])) fun σ2 H2 => tb { D with nx := Pv (i + 1), ct := Pv (i + 1), bk := D.nx } σ2 H2) (hd : ∀ σ H, Pv xs.length σ H → D.nx σ H) :
    ∃ W : Nat → Nat → L2.St → Hp → Prop, (∃ m, W 0 m σ H) ∧ ∀ i m σ H, W i m σ H →
      ((ItzS K a b).stop i H ∧ D.nx σ H) ∨ ((ItzS K a b).go i H ∧ ∃ N : L2.St → Hp → Prop, (∀ σ' H', N σ' H' → ∃ m', m' < m ∧ W (i + 1) m' σ' H') ∧ ∀ v H', (ItzS K a b).yld i H v H' → g v σ H' fun σ2 H2 => tb { D with nx := N, ct := N, bk := D.nx } σ2 H2) := by
  refine ⟨fun i m σ H => m = xs.length - i ∧ i ≤ xs.length ∧ Pv i σ H, ⟨xs.length, rfl, Nat.zero_le _, h0⟩, ?_⟩
  rintro i m σ H ⟨rfl, hi, p⟩
  obtain ⟨qx, qy⟩ := hq i σ H p
  by_cases hlt : i < xs.length
  · have hx : xs[i]? = some xs[i] := List.getElem?_eq_getElem hlt
    have hlt2 : i < ys.length := by omega
    have hy : ys[i]? = some ys[i] := List.getElem?_eq_getElem hlt2
    refine .inr ⟨⟨xs, ys, _, _, qx, qy, hx, hy⟩, Pv (i + 1), fun σ' H' p' => ⟨xs.length - (i + 1), by omega, rfl, hlt, p'⟩, fun v H' y => ?_⟩
    obtain ⟨T, x', y', rfl, hT, rfl, f1, f2⟩ := y
    exact hs i x' y' T σ H (f1 xs qx) (f2 ys qy) p hT
  · have e : i = xs.length := by omega
    subst e
    exact .inl ⟨⟨xs, ys, qx, qy, Nat.le_refl _, by omega⟩, hd σ H p⟩
end K8
end

section
set_option Elab.async false
set_option linter.all false
set_option maxRecDepth 100000
set_option maxHeartbeats 4000000
/-! K81: rows_met. -/
namespace K8
open PySem PySem.Spec PyProof.Rows L2
def rowsD (rs : List (List Str)) : Dt := .tup (rs.map txD)
def KnR (H : Hp) (xs : List (E3 V)) (kn : List KR) : Prop := Paired (fun (x : E3 V) (e : KR) => x.1 = txD e.1 ∧ Tp H x.2.2 (rowsD e.2)) xs kn
theorem KnR.mono {H H' : Hp} {xs : List (E3 V)} {kn : List KR} (k : KnR H xs kn) (t : Ts H H') : KnR H' xs kn := by
  unfold KnR at k ⊢
  induction k with
  | nil => exact .nil
  | cons h _ ih => exact .cons ⟨h.1, h.2.mono t⟩ ih
theorem KnR.keys {H : Hp} {xs : List (E3 V)} {kn : List KR} (k : KnR H xs kn) : xs.map (·.1) = kn.map fun e => txD e.1 := by
  unfold KnR at k
  induction k with
  | nil => rfl
  | cons h _ ih => rw [List.map_cons, List.map_cons, h.1, ih]
theorem KnR.mem {H : Hp} {xs : List (E3 V)} {kn : List KR} (k : KnR H xs kn) (q : List Str) : txD q ∈ xs.map (·.1) ↔ q ∈ kn.map (·.1) := by
  rw [k.keys]
  constructor
  · intro h
    obtain ⟨e, he, h1⟩ := List.mem_map.mp h
    exact List.mem_map.mpr ⟨e, he, txD_inj h1⟩
  · intro h
    obtain ⟨e, he, h1⟩ := List.mem_map.mp h
    exact List.mem_map.mpr ⟨e, he, by rw [h1]⟩
theorem KnR.len {H : Hp} {xs : List (E3 V)} {kn : List KR} (k : KnR H xs kn) : xs.length = kn.length := by
  unfold KnR at k
  exact Paired.length k
theorem KnR.find {H : Hp} {xs : List (E3 V)} {kn : List KR} (k : KnR H xs kn) (q : List Str) : (findN xs (txD q) = none ∧ q ∉ kn.map (·.1)) ∨ ∃ v e, findN xs (txD q) = some v ∧ e ∈ kn ∧ e.1 = q ∧ Tp H v (rowsD e.2) := by
  unfold KnR at k
  induction k with
  | nil => exact .inl ⟨rfl, by simp⟩
  | @cons x e xs kn h t ih =>
    unfold findN
    rw [List.find?_cons]
    by_cases hq : x.1 = txD q
    · rw [decide_eq_true hq]
      exact .inr ⟨x.2.2, e, rfl, List.mem_cons_self, txD_inj (by rw [← h.1, hq]), h.2⟩
    · rw [decide_eq_false hq]
      have hne : e.1 ≠ q := fun z => hq (by rw [h.1, z])
      rcases ih with ⟨i1, i2⟩ | ⟨v, e', i1, i2, i3, i4⟩
      · exact .inl ⟨i1, by rw [List.map_cons, List.mem_cons]; rintro (z | z); exact hne z.symm; exact i2 z⟩
      · exact .inr ⟨v, e', i1, List.mem_cons_of_mem _ i2, i3, i4⟩
theorem KnR.at {H : Hp} {xs : List (E3 V)} {kn : List KR} (k : KnR H xs kn) : ∀ {i : Nat} {x : E3 V}, xs[i]? = some x → ∃ e, kn[i]? = some e ∧ x.1 = txD e.1 ∧ Tp H x.2.2 (rowsD e.2) := by
  unfold KnR at k
  induction k with
  | nil => intro i x h; simp at h
  | @cons x e xs kn h t ih =>
    intro i y hy
    cases i with
    | zero => obtain rfl : x = y := by simpa using hy
              exact ⟨e, rfl, h⟩
    | succ i => obtain ⟨e', h1, h2⟩ := ih (i := i) (by simpa using hy)
                exact ⟨e', by simpa using h1, h2⟩
/-- for over a list just made; the list stands -/
theorem q_forN {α : Type} {G : Hp → Prop} {te : TE} {g : TG} {tb : TS} {D : L2.Ends} {σ : L2.St} {H : Hp} {K : PySem.W.Frag} {xs : List α} {mk : α → Dt} (he : EvL G te σ (xs.map mk)) (g0 : G H) (Pv : Addr → Hp → Nat → L2.St → Hp → Prop)
    (h0 : ∀ p H2, H p = none → Same H H2 → (∃ us, H2 p = some (.lst us) ∧ TpA H2 us (xs.map mk)) → Pv p H2 0 σ H2)
    (hT : ∀ p H2, H p = none → Same H H2 → ∀ us, H2 p = some (.lst us) → ∀ i τ H', Pv p H2 i τ H' → H' p = some (.lst us) ∧ Ts H2 H')
    (hs : ∀ p H2, H p = none → Same H H2 → ∀ i b τ H' x, xs[i]? = some b → b ∈ xs → Pv p H2 i τ H' → Tp H' x (mk b) → EvG g τ x H' fun τ2 H3 => tb { D with nx := Pv p H2 (i + 1), ct := Pv p H2 (i + 1), bk := D.nx } τ2 H3)
    (hd : ∀ p H2, H p = none → Same H H2 → ∀ τ H', Pv p H2 xs.length τ H' → D.nx τ H') : tFor (iList K te) g tb D σ H := he H g0 _ fun a us H2 hn s2 e t => by
  refine ⟨a, rfl, ⟨us, .inl (.inl e)⟩, fun i m τ H' => m = xs.length - i ∧ i ≤ xs.length ∧ Pv a H2 i τ H', ⟨xs.length, rfl, Nat.zero_le _, h0 a H2 hn s2 ⟨us, e, t⟩⟩, ?_⟩
  rintro i m τ H' ⟨rfl, hle, p⟩
  obtain ⟨e', ts⟩ := hT a H2 hn s2 us e i τ H' p
  have t' := t.mono ts
  have q : SqL K H' a us := .inl (.inl e')
  have hlen : us.length = xs.length := by rw [t.length, List.length_map]
  by_cases hlt : i < xs.length
  · have hx : us[i]? = some (us[i]'(by omega)) := List.getElem?_eq_getElem _
    refine .inr ⟨⟨us, _, q, hx⟩, Pv a H2 (i + 1), fun τ' H'' p' => ⟨xs.length - (i + 1), by omega, rfl, hlt, p'⟩, fun x H'' y => ?_⟩
    obtain ⟨rfl, hy⟩ := y
    obtain ⟨d, hd', td⟩ := t'.getV (hy us q)
    obtain ⟨b, hb, hm, rfl⟩ := at_map hd'
    exact hs a H2 hn s2 i b τ H'' x hb hm p td _ fun τ2 H3 q => q
  · have e2 : i = xs.length := by omega
    subst e2
    exact .inl ⟨⟨us, q, Nat.le_of_eq hlen⟩, hd a H2 hn s2 τ H' p⟩
/-- the turns over a list that stands -/
theorem w_list {α : Type} {g : TG} {tb : TS} {D : L2.Ends} {σ : L2.St} {H1 : Hp} {K : PySem.W.Frag} {a : Addr} {us : List V} {xs : List α} {mk : α → Dt} (t : TpA H1 us (xs.map mk)) (Pv : Nat → L2.St → Hp → Prop)
    (h0 : Pv 0 σ H1) (hT : ∀ i τ H', Pv i τ H' → H' a = some (.lst us) ∧ Ts H1 H')
    (hs : ∀ i b τ H' x, xs[i]? = some b → b ∈ xs → Pv i τ H' → Tp H' x (mk b) → EvG g τ x H' fun τ2 H3 => tb { D with nx := Pv (i + 1), ct := Pv (i + 1), bk := D.nx } τ2 H3)
    (hd : ∀ τ H', Pv xs.length τ H' → D.nx τ H') : ∃ W : Nat → Nat → L2.St → Hp → Prop, (∃ m, W 0 m σ H1) ∧ ∀ i m σ H, W i m σ H →
      ((Itl K a).stop i H ∧ D.nx σ H) ∨ ((Itl K a).go i H ∧ ∃ N : L2.St → Hp → Prop, (∀ σ' H', N σ' H' → ∃ m', m' < m ∧ W (i + 1) m' σ' H') ∧ ∀ x H', (Itl K a).yld i H x H' → g x σ H' fun σ2 H2 => tb { D with nx := N, ct := N, bk := D.nx } σ2 H2) := by
  refine ⟨fun i m τ H' => m = xs.length - i ∧ i ≤ xs.length ∧ Pv i τ H', ⟨xs.length, rfl, Nat.zero_le _, h0⟩, ?_⟩
  rintro i m τ H' ⟨rfl, hle, p⟩
  obtain ⟨e', ts⟩ := hT i τ H' p
  have t' := t.mono ts
  have q : SqL K H' a us := .inl (.inl e')
  have hlen : us.length = xs.length := by rw [t.length, List.length_map]
  by_cases hlt : i < xs.length
  · have hx : us[i]? = some (us[i]'(by omega)) := List.getElem?_eq_getElem _
    refine .inr ⟨⟨us, _, q, hx⟩, Pv (i + 1), fun τ' H'' p' => ⟨xs.length - (i + 1), by omega, rfl, hlt, p'⟩, fun x H'' y => ?_⟩
    obtain ⟨rfl, hy⟩ := y
    obtain ⟨d, hd', td⟩ := t'.getV (hy us q)
    obtain ⟨b, hb, hm, rfl⟩ := at_map hd'
    exact hs i b τ H'' x hb hm p td _ fun τ2 H3 q => q
  · have e2 : i = xs.length := by omega
    subst e2
    exact .inl ⟨⟨us, q, Nat.le_of_eq hlen⟩, hd τ H' p⟩
def wordsOf (S T : List Sh) : List WW := (S.zip T).map fun p => (p.1.map (·.1), p.2.map (·.1))
abbrev nRowsMet : List Str := ["one", "other", "heavy", "known", "shelf", "its", "words", "later", "done", "rows", "kinds", "row"]
theorem sc_RowsMet : FnScope nRowsMet ["one", "other", "heavy"] (defScope (K81.top 12)) := ⟨rfl, rfl, rfl, by decide +kernel, rfl, by decide +kernel, by decide +kernel⟩
def spRowsMet : Sp := fun vs H Q _ => ∃ (u v : V) (a : Addr) (us : List V) (S T : List Sh) (heavy : List Str), vs = [u, v, .ref a] ∧ Tp H u (stD S) ∧ Tp H v (stD T) ∧ S.length = T.length ∧ S.length ≤ 100 ∧ (∀ s ∈ S, s.length ≤ 1000) ∧ (∀ s ∈ T, s.length ≤ 1000) ∧
  H a = some (.lst us) ∧ TpA H us (heavy.map NestedKey.text) ∧ heavy.length ≤ 5 ∧ heavy.Nodup ∧ srtS heavy = heavy ∧
  ∀ x H', Same H H' → ((x = .non ∧ ¬ KM.Meet (wordsOf S T) heavy) ∨ ∃ rs, Tp H' x (rowsD rs) ∧ KM.All2 (wordsOf S T) rs ∧ rs.flatten.Perm heavy) → Q x H'
section
variable {P : Program} {w : World} {K : PySem.W.Frag} {mg : Str → Option Value} {base : Heap}
theorem cal_RowsMet (B : Bi mg) (D : DfE K mg "rows_met" 12) (CWordOf : Cal P w K mg base "word_of" 1 ["shelf"] spWordOf) (CEndsOf : Cal P w K mg base "ends_of" 2 ["words", "heavy", "done"] spEndsOf) : Cal P w K mg base "rows_met" 3 ["one", "other", "heavy"] spRowsMet := by
  obtain ⟨f, fd, D⟩ := D
  have nd := sc_RowsMet.nd
  refine D.cal (D.F.ok sc_RowsMet (fun vs H Q E h => ?_) fun cdv A outer s H vs Q E hr h => ⟨_, PSs.nox
    ((pss_cons (ps_set (i := 3) nd rfl (by first | exact Or.inl rfl | exact Or.inr rfl) (pe_dispN hr.units (pps_cons (pe_tup pa_nil) (pe_tup pa_nil) pps_nil) (by rfl) (by rfl) (fun z => by cases z) (by decide)))
      (pss_cons (ps_for PassesOwn.never rfl (pi_zipS rfl B.zip (pa_cons (pv 0) (pa_cons (pv 1) pa_nil))) (pg_tup rfl (pgs_cons (pg_name (i := 4) nd rfl (by first | exact Or.inl rfl | exact Or.inr rfl)) (pgs_cons (pg_name (i := 5) nd rfl (by first | exact Or.inl rfl | exact Or.inr rfl)) pgs_nil))) (pss_cons (ps_par (i := 6) (j := 7) rfl nd rfl rfl (by decide) rfl rfl (pa_cons (pe_tup (pa_cons (pe_callC CWordOf (hr.mono (by decide)) (pa_cons (pv 4) pa_nil)) (pa_cons (pe_callC CWordOf (hr.mono (by decide)) (pa_cons (pv 5) pa_nil)) pa_nil))) (pa_cons pe_new pa_nil)) (by rfl))
      (pss_cons (ps_for PassesOwn.never rfl (pi_itemsN (pv 3)) (pg_tup rfl (pgs_cons (pg_name (i := 8) nd rfl (by first | exact Or.inl rfl | exact Or.inr rfl)) (pgs_cons (pg_name (i := 9) nd rfl (by first | exact Or.inl rfl | exact Or.inr rfl)) pgs_nil))) (pss_one (ps_for PassesOwn.never rfl (pi_list (pe_callC CEndsOf (hr.mono (by decide)) (pa_cons (pv 6) (pa_cons (pv 2) (pa_cons (pv 8) pa_nil))))) (pg_tup rfl (pgs_cons (pg_name (i := 10) nd rfl (by first | exact Or.inl rfl | exact Or.inr rfl)) (pgs_cons (pg_name (i := 11) nd rfl (by first | exact Or.inl rfl | exact Or.inr rfl)) pgs_nil))) (pss_one (ps_expr (pe_setdN hr.units (pv 7) (pv 10) (pe_op op_catA (pv 9) (pe_tup (pa_cons (pv 11) pa_nil))) ⟨rfl, rfl, rfl, rfl⟩))))))
      (pss_one (ps_set (i := 3) nd rfl (by first | exact Or.inl rfl | exact Or.inr rfl) (pv 7))))))
      (pss_one (ps_ret (pe_getN1 hr.units (pv 3) (pe_callTy call_tuple_of rfl B.tuple boot_tuple (pa_cons (pv 2) pa_nil)) ⟨rfl, rfl, rfl, rfl⟩)))))), ?_⟩)
    (fun kV doc pm an cdv ct us hl => match us, hl with | [_, _, _], _ => rfl)
  · obtain ⟨u, v, a, us, S, T, hy, rfl, _⟩ := h; rfl
  · obtain ⟨u, v, a, us, S, T, hy, rfl, tS, tT, hlen, l0, lS, lT, ha, tu, l1, n1, hs, hq⟩ := h
    obtain ⟨a1, xs1, rfl, r1, t1⟩ := tS.tup_inv
    obtain ⟨a2, xs2, rfl, r2, t2⟩ := tT.tup_inv
    intro d0 o0 hd0 D0
    refine ed_tup (G := fun H' => Same (upd H d0 (dnO d0 o0)) H') ea_nil (Nat.zero_le _) _ (Same.refl _) _ fun kv Ha sa tka => ?_
    refine ed_tup (G := fun H' => Same Ha H') ea_nil (Nat.zero_le _) _ (Same.refl _) _ fun rv Hb sb trb => ?_
    obtain ⟨ka, kxs, rfl, _⟩ := tka.tup_inv
    refine ⟨o0, [(txD [], ka, rv)], (D0.up sa).up sb, rfl, fun x hx => ?_, (show 1 ≤ 15 by decide), fun o1 D1 => ?_⟩
    · rw [List.mem_singleton.mp hx]
      exact ⟨tka.up sb, Nat.le_trans (depth_txD []) (by decide)⟩
    have sHb : Same H (upd Hb d0 (dnO d0 o1)) := same_D ((same_new hd0).trans (sa.trans sb)) hd0
    have Db0 := (D0.up sa).up sb
    have D1' : DNo P w (upd Hb d0 (dnO d0 o1)) d0 o1 [(txD [], ka, rv)] := D1
    generalize hH1 : upd Hb d0 (dnO d0 o1) = H1 at sHb D1' ⊢
    have tb1 : Ts Hb H1 := by rw [← hH1]; exact Ts.dn Db0.at_
    have hlx : xs1.length = xs2.length := by rw [t1.length, t2.length]; simp [hlen]
    have hlS : xs1.length = S.length := by rw [t1.length]; simp
    refine ⟨.ref a1, rfl, .ref a2, rfl, a1, a2, xs1, xs2, rfl, .inl (rd_up sHb r1), .inl (rd_up sHb r2), ?_⟩
    refine for_zipS hlx (fun i σ H' => ∃ o4 o5 o6 o7 o8 o9 o10 o11 d o xs kn, σ = [some (.ref a1), some (.ref a2), some (.ref a), some (.ref d), o4, o5, o6, o7, o8, o9, o10, o11] ∧ Same H H' ∧ DNo P w H' d o xs ∧ KnR H' xs kn ∧ KM.Known srtS hy ((wordsOf S T).take i) kn ∧ (kn.map (·.1)).Nodup) ?_ ?_ ?_ ?_
    · exact ⟨none, none, none, none, none, none, none, none, d0, o1, _, [([], [])], rfl, sHb, D1', .cons ⟨rfl, trb.mono tb1⟩ .nil, KM.Known.start KSrt, by simp⟩
    · rintro i σ H' ⟨o4, o5, o6, o7, o8, o9, o10, o11, d, o, xs, kn, rfl, sH, _⟩
      exact ⟨.inl (rd_up sH r1), .inl (rd_up sH r2)⟩
    · rintro i x y Tp0 σ H2 hx hy' ⟨o4, o5, o6, o7, o8, o9, o10, o11, d, o, xs, kn, rfl, sH, Dn, Kx, Kn, nk⟩ hT0
      have hi : i < S.length := by rw [← hlS]; exact (List.getElem?_eq_some_iff.mp hx).1
      obtain ⟨ds, hds, tx⟩ := t1.getV hx
      obtain ⟨s1, hs1, hs1m, rfl⟩ := at_map hds
      obtain ⟨dt, hdt, ty⟩ := t2.getV hy'
      obtain ⟨s2, hs2, hs2m, rfl⟩ := at_map hdt
      have hw : (wordsOf S T)[i]? = some (s1.map (·.1), s2.map (·.1)) := by
        have e : (S.zip T)[i]? = some (s1, s2) := List.getElem?_zip_eq_some.mpr ⟨hs1, hs2⟩
        unfold wordsOf
        rw [List.getElem?_map, e]
        rfl
      generalize hww : ((s1.map (·.1), s2.map (·.1)) : WW) = ww at hw
      have sn := same_new (o := .tup [x, y]) hT0
      refine ⟨Tp0, _, rfl, .inl (.inl (by simp [upd])), rfl, x, _, rfl, y, _, rfl, rfl, ?_⟩
      generalize upd H2 Tp0 (.tup [x, y]) = H3 at sn ⊢
      have sH3 := sH.trans sn
      refine ⟨x, rfl, x, s1, rfl, (tx.up sH3), lS s1 hs1m, fun w1 H4 s4 wd1 => ?_⟩
      refine ⟨y, rfl, y, s2, rfl, ((ty.up sH3).up s4), lT s2 hs2m, fun w2 H5 s5 wd2 => ?_⟩
      refine ⟨(by show 2 ≤ sizeLine; decide), fun t ht => ?_⟩
      have s5t := same_new (o := .tup [w1, w2]) ht
      have wwt : Ww (upd H5 t (.tup [w1, w2])) (.ref t) ww := by
        rw [← hww]
        exact ⟨t, w1, w2, rfl, .inl (by simp [upd]), (wd1.up s5).up s5t, wd2.up s5t⟩
      generalize upd H5 t (.tup [w1, w2]) = H6 at s5t wwt ⊢
      intro d2 o2 hd2 D2
      refine ⟨_, _, rfl, ?_⟩
      have s36 := (s4.trans s5).trans s5t
      have sH6 := sH3.trans s36
      have s67 := same_new (o := dnO d2 o2) hd2
      generalize upd H6 d2 (dnO d2 o2) = H7 at s67 D2 ⊢
      have sH7 := sH6.trans s67
      have s27 : Same H2 H7 := (sn.trans s36).trans s67
      have Dn7 := Dn.up s27
      have Kx7 := Kx.mono (Ts.of s27)
      have wwt7 := wwt.up s67
      have hdd : d ≠ d2 := fun e => by
        subst e
        have := (Dn.up (sn.trans s36)).at_
        rw [this] at hd2
        cases hd2
      have hHd2 : H d2 = none := sH6.free hd2
      refine ⟨.ref d, rfl, d, o, xs, rfl, Dn7, ?_⟩
      refine for_itemsN (xs := xs) (fun i2 σ H' => ∃ o8 o9 o10 o11 o2 ls la, σ = [some (.ref a1), some (.ref a2), some (.ref a), some (.ref d), some x, some y, some (.ref t), some (.ref d2), o8, o9, o10, o11] ∧ Ts H7 H' ∧ Fs H7 H' ∧ Same H H' ∧ H' d = some (dnO d o) ∧ DNo P w H' d2 o2 ls ∧ KnR H' ls la ∧ LP ww hy kn i2 la) ?_ ?_ ?_ ?_
      · exact ⟨_, _, _, _, o2, [], [], rfl, Ts.of (Same.refl _), Fs.of (Same.refl _), sH7, Dn7.at_, D2, .nil, LP.start⟩
      · rintro i2 σ H' ⟨o8, o9, o10, o11, o2, ls, la, rfl, _, _, _, e, _⟩
        exact e
      · rintro i2 yv T1 σ H8 hy2 ⟨o8, o9, o10, o11, o2', ls, la, rfl, ts8, fs8, sH8, e8, D8, K8x, L8⟩ hT1
        obtain ⟨e, he, ye1, ye2⟩ := Kx7.at hy2
        have hem : e ∈ kn := List.mem_of_getElem? he
        have tkey := (Dn7.key yv (List.mem_of_getElem? hy2)).1
        rw [ye1] at tkey
        obtain ⟨Re, ek⟩ := Kn.sound e hem
        have ndk : e.1.Nodup := by rw [ek]; exact (srtS_perm _).nodup_iff.mpr Re.nd
        have hvk : ∀ k ∈ e.1, k ∈ hy := fun k hk => Re.hv k (by rw [ek] at hk; exact KSrt.mem.mp hk)
        have lk : e.1.length ≤ 5 := Nat.le_trans (nodup_len ndk hvk) l1
        have srk : srtS e.1 = e.1 := by rw [ek]; exact KSrt.idem _
        have lr : e.2.length ≤ 100 := by
          rw [Re.cs.length, List.length_take]
          have : (wordsOf S T).length ≤ S.length := by unfold wordsOf; rw [List.length_map, List.length_zip]; omega
          omega
        refine ⟨T1, _, rfl, .inl (.inl (by simp [upd])), rfl, .ref yv.2.1, _, rfl, yv.2.2, _, rfl, rfl, ?_⟩
        have sn9 := same_new (o := .tup [.ref yv.2.1, yv.2.2]) hT1
        generalize upd H8 T1 (.tup [.ref yv.2.1, yv.2.2]) = H9 at sn9 ⊢
        have sH9 := sH8.trans sn9
        have ts9 := ts8.trans (Ts.of sn9)
        have fs9 := fs8.trans (Fs.of sn9)
        refine ⟨.ref t, rfl, .ref a, rfl, .ref yv.2.1, rfl, .ref t, .ref yv.2.1, a, us, ww, hy, e.1, rfl, wwt7.fs ts9 fs9, sH9 _ _ ha, tu.up sH9, tkey.mono ts9, l1, n1, ndk, srk, by omega, fun p vs H10 res hp s10 e10 t10 En hres => ?_⟩
        refine ⟨p, rfl, ⟨vs, .inl (.inl e10)⟩, ?_⟩
        have sH10 := sH9.trans s10
        have ts10 := ts9.trans (Ts.of s10)
        have fs10 := fs9.trans (Fs.of s10)
        have D10 := (D8.up sn9).up s10
        have hpd2 : p ≠ d2 := fun z => by
          subst z
          have := (D8.up sn9).at_
          rw [this] at hp
          cases hp
        have hHp : H p = none := sH9.free hp
        refine w_list (xs := res) t10 (fun j τ H' => ∃ o10 o11 o2 ls la, τ = [some (.ref a1), some (.ref a2), some (.ref a), some (.ref d), some x, some y, some (.ref t), some (.ref d2), some (.ref yv.2.1), some yv.2.2, o10, o11] ∧ H' p = some (.lst vs) ∧ Ts H10 H' ∧ Fs H10 H' ∧ Same H H' ∧ H' d = some (dnO d o) ∧ DNo P w H' d2 o2 ls ∧ KnR H' ls la ∧ LP ww hy kn i2 la ∧ ∀ q ∈ res.take j, q.1 ∈ la.map (·.1)) ?_ ?_ ?_ ?_
        · exact ⟨_, _, o2', ls, la, rfl, e10, Ts.of (Same.refl _), Fs.of (Same.refl _), sH10, s10 _ _ (sn9 _ _ e8), D10, K8x.mono ((Ts.of sn9).trans (Ts.of s10)), L8, by simp⟩
        · rintro j τ H' ⟨_, _, _, _, _, _, e, t, _⟩
          exact ⟨e, t⟩
        · rintro j r τ H11 xx hr hrm ⟨o10, o11, o2, ls, la, rfl, ep, ts11, fs11, sH11, ed11, D11, K11, L11, hq11⟩ txx
          obtain ⟨c1, c2, c3, c4⟩ := En.sound r hrm
          refine eg_pair txx fun kv rv tk tr => ?_
          obtain ⟨ka, kxs, rfl, _⟩ := tk.tup_inv
          have trow := ye2.mono (ts10.trans ts11)
          have hlow := L11.few n1 Kn
          have h32 : 2 ^ hy.length ≤ 32 := Nat.pow_le_pow_right (by decide) l1
          refine ⟨.ref d2, rfl, d2, o2, ls, rfl, D11, .ref ka, rfl, ?_⟩
          refine ed_op (G := fun H' => Same H11 H') (d := rowsD (e.2 ++ [r.2])) (ed_var (d := rowsD e.2) rfl fun H' s => trow.up s) (ed_tup (ea_cons (d := txD r.2) (ed_var rfl fun H' s => tr.up s) ea_nil) (show 1 ≤ 100000 by decide)) ?_ H11 (Same.refl _) _ fun z H12 s12 tz => ?_
          · have z := rd_cat (G := fun H' => Same H11 H') (K := K) (ds := e.2.map txD) (es := [txD r.2]) (by rw [List.length_map]; show _ + 1 ≤ _; omega)
            unfold rowsD
            rw [List.map_append]
            exact z
          · refine ⟨o2, ls, txD r.1, ka, D11.up s12, rfl, tk.up s12, Nat.le_trans (depth_txD _) (by decide), by rw [K11.len]; have := sizeLine_eq; omega, fun v hv => ?_, fun hn o' D' => ?_⟩
            · refine ⟨_, _, o2, ls, la, rfl, s12 _ _ ep, ts11.trans (Ts.of s12), fs11.trans (Fs.of s12), sH11.trans s12, s12 _ _ ed11, D11.up s12, K11.mono (Ts.of s12), L11, fun q hq => ?_⟩
              rw [List.take_add_one, hr] at hq
              rcases List.mem_append.mp hq with hq | hq
              · exact hq11 q hq
              · have e1 : q = r := by simpa using hq
                rw [e1]
                have := findN_dec (xs := ls) (k := txD r.1)
                rw [hv] at this
                exact (K11.mem r.1).mp (of_decide_eq_true this.symm)
            · have hnk : r.1 ∉ la.map (·.1) := fun z => hn ((K11.mem r.1).mpr z)
              have La := L11.add hem c1 c2 c3
              rw [← c4] at La
              unfold addL at La
              rw [if_neg hnk] at La
              have D12 := D11.up s12
              have tu12 : Ts H12 (upd H12 d2 (dnO d2 o')) := Ts.dn D12.at_
              refine ⟨_, _, o', ls ++ [(txD r.1, ka, z)], la ++ [(r.1, e.2 ++ [r.2])], rfl, ?_, (ts11.trans (Ts.of s12)).trans tu12, (fs11.trans (Fs.of s12)).trans (Fs.upd D12.at_ (fun _ _ z => nomatch z)), same_D (sH11.trans s12) hHd2, ?_, D', ?_, La, fun q hq => ?_⟩
              · rw [upd_ne hpd2]; exact s12 _ _ ep
              · rw [upd_ne hdd]; exact s12 _ _ ed11
              · exact paired_snoc (F := fun (x : E3 V) (e : KR) => x.1 = txD e.1 ∧ Tp _ x.2.2 (rowsD e.2)) ⟨rfl, tz.mono tu12⟩ (K11.mono ((Ts.of s12).trans tu12))
              · rw [List.map_append]
                rw [List.take_add_one, hr] at hq
                rcases List.mem_append.mp hq with hq | hq
                · exact List.mem_append_left _ (hq11 q hq)
                · have e1 : q = r := by simpa using hq
                  rw [e1]
                  exact List.mem_append_right _ (by simp)
        · rintro τ H' ⟨o10, o11, o2, ls, la, rfl, ep, ts11, fs11, sH11, ed11, D11, K11, L11, hq11⟩
          rw [List.take_length] at hq11
          exact ⟨_, _, _, _, o2, ls, la, rfl, ts10.trans ts11, fs10.trans fs11, sH11, ed11, D11, K11, L11.next he En hq11⟩
      · rintro σ H' ⟨o8, o9, o10, o11, o2, ls, la, rfl, ts8, fs8, sH8, e8, D8, K8x, L8⟩
        rw [Kx7.len] at L8
        have hKn := Kn.step KSrt L8.later
        have htk : (wordsOf S T).take (i + 1) = (wordsOf S T).take i ++ [ww] := by rw [List.take_add_one, hw]; rfl
        rw [← htk] at hKn
        exact ⟨.ref d2, rfl, _, _, _, _, _, _, _, _, d2, o2, ls, la, rfl, sH8, D8, K8x, hKn, L8.nd⟩
    · rintro σ H' ⟨o4, o5, o6, o7, o8, o9, o10, o11, d, o, xs, kn, rfl, sH, Dn, Kx, Kn, nk⟩
      rw [hlS] at Kn
      have hwl : (wordsOf S T).take S.length = wordsOf S T := List.take_of_length_le (by unfold wordsOf; rw [List.length_map, List.length_zip]; omega)
      rw [hwl] at Kn
      refine ⟨.ref d, rfl, d, o, xs, rfl, Dn, .ref a, rfl, a, us, rfl, .inl ⟨.inl (.inl (sH _ _ ha)), fun l hl => ?_⟩⟩
      have sl := same_new (o := .tup us) hl
      have tl : Tp (upd H' l (.tup us)) (.ref l) (txD hy) := tp_new hl (tu.up sH)
      refine ⟨o, xs, txD hy, l, Dn.up sl, rfl, tl, Nat.le_trans (depth_txD _) (by decide), ?_⟩
      rcases (Kx.mono (Ts.of sl)).find hy with ⟨f1, f2⟩ | ⟨v, e, f1, f2, f3, f4⟩
      · rw [f1]
        exact hq _ _ (sH.trans sl) (.inl ⟨rfl, fun m => f2 (Kn.meet KSrt hs n1 m)⟩)
      · rw [f1]
        obtain ⟨g1, g2⟩ := Kn.found KSrt hs f2 f3
        exact hq _ _ (sH.trans sl) (.inr ⟨e.2, f4, g1, g2⟩)
end
end K8
end

section
set_option Elab.async false
set_option linter.all false
set_option maxRecDepth 100000
set_option maxHeartbeats 4000000
/-! K81: look_alike. -/
namespace K8
open PySem PySem.Spec PyProof.Rows L2
abbrev nLookAlike : List Str := ["one", "other", "kind"]
theorem sc_LookAlike : FnScope nLookAlike ["one", "other"] (defScope (K81.top 8)) := ⟨rfl, rfl, rfl, by decide +kernel, rfl, by decide +kernel, by decide +kernel⟩
theorem stD_app (S T : List Sh) : (NestedKey.tup (S.map shD ++ T.map shD)) = stD (S ++ T) := by unfold stD; rw [List.map_append]
def spLookAlike : Sp := fun vs H Q _ => ∃ (u v : V) (S T : List Sh), vs = [u, v] ∧ Tp H u (stD S) ∧ Tp H v (stD T) ∧ Few S ∧ Few T ∧ Few (S ++ T) ∧ S.length = T.length ∧ (∀ k, manyOf S k = manyOf T k) ∧ ∀ H', Same H H' → Q .non H'
section
variable {P : Program} {w : World} {K : PySem.W.Frag} {mg : Str → Option Value} {base : Heap}
theorem cal_LookAlike (B : Bi mg) (D : DfE K mg "look_alike" 8) (CKindsIn : Cal P w K mg base "kinds_in" 1 ["standing"] spKindsIn) (CManyOf : Cal P w K mg base "many_of" 1 ["standing", "kind"] spManyOf) : Cal P w K mg base "look_alike" 2 ["one", "other"] spLookAlike := by
  obtain ⟨f, fd, D⟩ := D
  have nd := sc_LookAlike.nd
  refine D.cal (D.F.ok sc_LookAlike (fun vs H Q E h => ?_) fun cdv A outer s H vs Q E hr h => ⟨_, PSs.nox
    ((pss_cons (ps_if (pt_cmpR op_ne (pe_callB call_len_seq rfl B.len PySem.boot_len (pa_cons (pv 0) pa_nil)) (pe_callB call_len_seq rfl B.len PySem.boot_len (pa_cons (pv 1) pa_nil)) (nomark _)) (pss_one ps_never) pss_nil)
      (pss_one (ps_for PassesOwn.never rfl (pi_list (pe_callC CKindsIn (hr.mono (by decide)) (pa_cons (pe_op op_catA (pv 0) (pv 1)) pa_nil))) (pg_name (i := 2) nd rfl (by first | exact Or.inl rfl | exact Or.inr rfl)) (pss_one (ps_if (pt_cmpR op_ne (pe_callC CManyOf (hr.mono (by decide)) (pa_cons (pv 0) (pa_cons (pv 2) pa_nil))) (pe_callC CManyOf (hr.mono (by decide)) (pa_cons (pv 1) (pa_cons (pv 2) pa_nil))) (nomark _)) (pss_one ps_never) pss_nil)))))), ?_⟩)
    (fun kV doc pm an cdv ct us hl => match us, hl with | [_, _], _ => rfl)
  · obtain ⟨u, v, S, T, rfl, _⟩ := h; rfl
  · obtain ⟨u, v, S, T, rfl, hu, hv, fS, fT, fST, hl, hm, hq⟩ := h
    refine q_if (G := fun H' => Same H H') (b := false) (EvT.to (et_cmp (ed_len (ed_var rfl fun H' s => hu.up s)) (ed_len (ed_var rfl fun H' s => hv.up s)) rb_neI) (by simp [hl])) (Same.refl H) (fun z => nomatch z) fun _ H1 s1 => ?_
    refine q_forI (G := fun H' => Same H H') (xs := kindsOf (S ++ T)) (mk := NestedKey.text) (ei_list (el_call (sp := spKindsIn) (E := E0) (ea_cons (d := stD (S ++ T)) (EvD.to (ed_op (ed_var rfl fun H' s => hu.up s) (ed_var rfl fun H' s => hv.up s) (rd_cat ?_)) (stD_app S T)) ea_nil) ?_)) s1 (fun H2 i τ H' => ∃ o, τ = [some u, some v, o] ∧ Same H2 H') ?_ ?_ ?_ ?_
    · have h1 := fS.1; have h2 := fT.1; simp only [List.length_map]; omega
    · intro vs H2 ht Q E hq
      obtain ⟨x, ws, rfl, tx, h2⟩ := TpA.cons_inv ht
      cases h2
      exact ⟨x, S ++ T, rfl, tx, fST, fun p us H' hn s e t => hq p us H' hn s e t⟩
    · exact fun H2 s2 => ⟨none, rfl, Same.refl _⟩
    · rintro H2 s2 i τ H' ⟨o, _, s⟩; exact s
    · rintro H2 s2 i k τ H' H'' x hk hmem ⟨o, rfl, s⟩ s3 tx
      have hs : Same H H'' := (s1.trans s2).trans (s.trans s3)
      refine eg_name ?_
      have e1 := tx.txt_inv
      subst e1
      refine q_if (G := fun H' => Same H H') (b := false) (EvT.to (et_cmp (x := .num (manyOf S k)) (y := .num (manyOf T k)) (ed_call (sp := spManyOf) (E := E0) (ea_cons (d := stD S) (ed_var rfl fun H' s => hu.up s) (ea_cons (d := .text k) (ed_var rfl fun H' s => .txt k) ea_nil)) ?_) (ed_call (sp := spManyOf) (E := E0) (ea_cons (d := stD T) (ed_var rfl fun H' s => hv.up s) (ea_cons (d := .text k) (ed_var rfl fun H' s => .txt k) ea_nil)) ?_) rb_neI) (by simp [hm k])) hs (fun z => nomatch z) fun _ H1 s1 => ?_
      · intro vs H2 ht Q E hq
        obtain ⟨x, ws, rfl, tx, h2⟩ := TpA.cons_inv ht
        obtain ⟨y, ws, rfl, ty, h2⟩ := TpA.cons_inv h2
        cases h2
        rw [ty.txt_inv]
        exact ⟨x, S, k, rfl, tx, fS, fun H' s => hq _ H' s (.num _)⟩
      · intro vs H2 ht Q E hq
        obtain ⟨x, ws, rfl, tx, h2⟩ := TpA.cons_inv ht
        obtain ⟨y, ws, rfl, ty, h2⟩ := TpA.cons_inv h2
        cases h2
        rw [ty.txt_inv]
        exact ⟨x, T, k, rfl, tx, fT, fun H' s => hq _ H' s (.num _)⟩
      · exact ⟨_, rfl, (s.trans s3).trans s1⟩
    · rintro H2 s2 τ H' ⟨o, _, s⟩
      exact hq H' ((s1.trans s2).trans s)
end
end K8
end

section
set_option Elab.async false
set_option linter.all false
set_option maxRecDepth 100000
set_option maxHeartbeats 4000000
/-! K81: meeting, meets. -/
namespace K8
open PySem PySem.Spec PyProof.Rows L2
def lightOf (S : List Sh) (lent : Int) : List Str := (kindsOf S).filter fun k => decide (manyOf S k ≤ lent)
def heavyOf (S : List Sh) (lent : Int) : List Str := (kindsOf S).filter fun k => !decide (k ∈ lightOf S lent)
theorem kinds_nodup (S : List Sh) : (kindsOf S).Nodup := (srtS_perm _).nodup_iff.mpr (dd_nodup _)
theorem mem_kinds {S : List Sh} {k : Str} : k ∈ kindsOf S ↔ ∃ s ∈ S, k ∈ s.map (·.1) := by
  unfold kindsOf
  rw [KSrt.mem, dd_mem, List.mem_flatMap]
theorem mem_light {S : List Sh} {lent : Int} {k : Str} : k ∈ lightOf S lent ↔ k ∈ kindsOf S ∧ manyOf S k ≤ lent := by
  unfold lightOf
  rw [List.mem_filter, decide_eq_true_eq]
theorem mem_heavy {S : List Sh} {lent : Int} {k : Str} : k ∈ heavyOf S lent ↔ k ∈ kindsOf S ∧ lent < manyOf S k := by
  unfold heavyOf
  rw [List.mem_filter, Bool.not_eq_true', decide_eq_false_iff_not, mem_light]
  constructor
  · rintro ⟨a, b⟩
    exact ⟨a, Int.not_le.mp fun z => b ⟨a, z⟩⟩
  · rintro ⟨a, b⟩
    exact ⟨a, fun z => absurd z.2 (Int.not_le.mpr b)⟩
theorem heavy_nodup (S : List Sh) (lent : Int) : (heavyOf S lent).Nodup := (kinds_nodup S).sublist List.filter_sublist
theorem light_nodup (S : List Sh) (lent : Int) : (lightOf S lent).Nodup := (kinds_nodup S).sublist List.filter_sublist
theorem heavy_srt (S : List Sh) (lent : Int) : srtS (heavyOf S lent) = heavyOf S lent := srtS_filter _ _
def addLight (light : List Str) : List (List Str) → List (List Str)
  | [] => []
  | r :: rs => (r ++ light) :: rs
def metSt (S : List Sh) (rs : List (List Str)) : List Sh := rs.map fun r => r.map fun k => (k, manyOf S k)
abbrev nMeeting : List Str := ["one", "other", "lent", "kinds", "light", "kind", "rows", "row"]
theorem sc_Meeting : FnScope nMeeting ["one", "other", "lent"] (defScope (K81.top 13)) := ⟨rfl, rfl, rfl, by decide +kernel, rfl, by decide +kernel, by decide +kernel⟩
/-- two standings that look alike -/
structure Alk (S T : List Sh) : Prop where
  fS : Few S
  fT : Few T
  fST : Few (S ++ T)
  len : S.length = T.length
  pos : 0 < S.length
  same : ∀ k, manyOf S k = manyOf T k
  kinds : (kindsOf S).length ≤ 5
def spMeeting : Sp := fun vs H Q _ => ∃ (u v : V) (S T : List Sh) (lent : Int), vs = [u, v, .int lent] ∧ Tp H u (stD S) ∧ Tp H v (stD T) ∧ Alk S T ∧
  ∀ x H', Same H H' → ((x = .non ∧ ¬ KM.Meet (wordsOf S T) (heavyOf S lent)) ∨ ∃ rs, Tp H' x (stD (metSt S (addLight (lightOf S lent) rs))) ∧ KM.All2 (wordsOf S T) rs ∧ rs.flatten.Perm (heavyOf S lent)) → Q x H'
theorem sd_ManyOf {S : List Sh} {k : Str} (f : Few S) : SpD spManyOf [stD S, .text k] (.num (manyOf S k)) := by
  intro vs H ht Q E hq
  obtain ⟨x, ws, rfl, tx, h2⟩ := TpA.cons_inv ht
  obtain ⟨y, ws, rfl, ty, h2⟩ := TpA.cons_inv h2
  cases h2
  rw [ty.txt_inv]
  exact ⟨x, S, k, rfl, tx, f, fun H' s => hq _ H' s (.num _)⟩
theorem sl_KindsIn {S : List Sh} (f : Few S) : SpL spKindsIn [stD S] ((kindsOf S).map NestedKey.text) := by
  intro vs H ht Q E hq
  obtain ⟨x, ws, rfl, tx, h2⟩ := TpA.cons_inv ht
  cases h2
  exact ⟨x, S, rfl, tx, f, fun p us H' hn s e t => hq p us H' hn s e t⟩
theorem mem_flat_len {r : List Str} {rs : List (List Str)} (h : r ∈ rs) : r.length ≤ rs.flatten.length := by
  obtain ⟨a, b, rfl⟩ := List.append_of_mem h
  simp only [List.flatten_append, List.flatten_cons, List.length_append]
  omega
theorem few_sh {S : List Sh} (f : Few S) : ∀ s ∈ S, s.length ≤ 1000 := fun s hs => by
  have h := f.2
  obtain ⟨a, b, rfl⟩ := List.append_of_mem hs
  rw [List.flatMap_append, List.length_append, List.flatMap_cons, List.length_append] at h
  omega
section
variable {P : Program} {w : World} {K : PySem.W.Frag} {mg : Str → Option Value} {base : Heap}
theorem cal_Meeting (B : Bi mg) (D : DfE K mg "meeting" 13) (CLookAlike : Cal P w K mg base "look_alike" 2 ["one", "other"] spLookAlike) (CKindsIn : Cal P w K mg base "kinds_in" 1 ["standing"] spKindsIn) (CManyOf : Cal P w K mg base "many_of" 1 ["standing", "kind"] spManyOf) (CRowsMet : Cal P w K mg base "rows_met" 3 ["one", "other", "heavy"] spRowsMet) : Cal P w K mg base "meeting" 4 ["one", "other", "lent"] spMeeting := by
  obtain ⟨f, fd, D⟩ := D
  have nd := sc_Meeting.nd
  refine D.cal (D.F.ok sc_Meeting (fun vs H Q E h => ?_) fun cdv A outer s H vs Q E hr h => ⟨_, PSs.nox
    ((pss_cons (ps_expr (pe_callC CLookAlike (hr.mono (by decide)) (pa_cons (pv 0) (pa_cons (pv 1) pa_nil))))
      (pss_cons (ps_set (i := 3) nd rfl (by first | exact Or.inl rfl | exact Or.inr rfl) (pe_callC CKindsIn (hr.mono (by decide)) (pa_cons (pv 0) pa_nil)))
      (pss_cons (ps_set (i := 4) nd rfl (by first | exact Or.inl rfl | exact Or.inr rfl) (pe_callTy call_tuple_of rfl B.tuple boot_tuple (pa_cons (pe_lc (wi := (iList K _)) (g := (gName 5)) (tt := _) (te := _) rfl nd (pi_list (pv 3)) (blkOk_by (own := [("kind", 5)]) (by kernel_rfl)) (fun _ _ _ _ _ => (pg_name (i := 5) nd rfl (by first | exact Or.inl rfl | exact Or.inr rfl))) (fun _ _ _ _ _ => (pts_one (pt_cmpR op_le (pe_callC CManyOf (hr.mono (by decide)) (pa_cons (pv 0) (pa_cons (pv 5) pa_nil))) (pv 2) (nomark _)))) (fun _ _ _ _ _ => (pv 5))) pa_nil)))
      (pss_cons (ps_set (i := 6) nd rfl (by first | exact Or.inl rfl | exact Or.inr rfl) (pe_callC CRowsMet (hr.mono (by decide)) (pa_cons (pv 0) (pa_cons (pv 1) (pa_cons (pe_lc (wi := (iList K _)) (g := (gName 5)) (tt := (tTest (tOp (rIn K true) _ _))) (te := _) rfl nd (pi_list (pv 3)) (blkOk_by (own := [("kind", 5)]) (by kernel_rfl)) (fun _ _ _ _ _ => (pg_name (i := 5) nd rfl (by first | exact Or.inl rfl | exact Or.inr rfl))) (fun _ _ _ _ _ => (pts_one (pt_cmpR op_notIn_seq (pv 5) (pv 4) (by with_unfolding_all rfl)))) (fun _ _ _ _ _ => (pv 5))) pa_nil)))))
      (pss_cons (ps_if (pt_cmpR op_isN (pv 6) pe_non (nomark _)) (pss_one (ps_ret pe_non)) pss_nil)
      (pss_cons (ps_set (i := 6) nd rfl (by first | exact Or.inl rfl | exact Or.inr rfl) (pe_op op_catA (pe_tup (pa_cons (pe_op op_catA (pe_ix ix_tup (pv 6) pe_int (fun _ _ => rfl)) (pv 4)) pa_nil)) (pe_slice sl_tupA (pv 6) (po_some pe_int) po_none)))
      (pss_one (ps_ret (pe_callTy call_tuple_of rfl B.tuple boot_tuple (pa_cons (pe_lc (wi := (iTup K _)) (g := (gName 7)) (tt := tYes) (te := (tCB (rTupOf K) (tCons (tLc (iTup K _) (gName 5) tYes _ _) tNil))) rfl nd (pi_tup (pv 6)) (blkOk_by (own := [("row", 7)]) (by kernel_rfl)) (fun _ _ _ _ _ => (pg_name (i := 7) nd rfl (by first | exact Or.inl rfl | exact Or.inr rfl))) (fun _ _ _ _ _ => pts_nil) (fun _ _ _ _ _ => (pe_callTy call_tuple_of rfl B.tuple boot_tuple (pa_cons (pe_lc (wi := (iTup K _)) (g := (gName 5)) (tt := tYes) (te := _) rfl nd (pi_tup (pv 7)) (blkOk_by (own := [("kind", 5)]) (by kernel_rfl)) (fun _ _ _ _ _ => (pg_name (i := 5) nd rfl (by first | exact Or.inl rfl | exact Or.inr rfl))) (fun _ _ _ _ _ => pts_nil) (fun _ _ _ _ _ => (pe_tup (pa_cons (pv 5) (pa_cons (pe_callC CManyOf (hr.mono (by decide)) (pa_cons (pv 0) (pa_cons (pv 5) pa_nil))) pa_nil))))) pa_nil)))) pa_nil))))))))))), ?_⟩)
    (fun kV doc pm an cdv ct us hl => match us, hl with | [_, _, _], _ => rfl)
  · obtain ⟨u, v, S, T, lent, rfl, _⟩ := h; rfl
  · obtain ⟨u, v, S, T, lent, rfl, tS, tT, al, hq⟩ := h
    refine ⟨u, rfl, v, rfl, u, v, S, T, rfl, tS, tT, al.fS, al.fT, al.fST, al.len, al.same, fun H1 s1 => ?_⟩
    have lk := al.kinds
    refine q_asgL (G := fun H' => Same H H') (el_call (E := E0) (ea_cons (ed_var rfl fun H' s => tS.up s) ea_nil) (sl_KindsIn al.fS)) s1 fun ka us H2 hn2 s2 e2 t2 => ?_
    have s02 := s1.trans s2
    have many : ∀ {τ : L2.St} {G : Hp → Prop} (_ : ∀ H', G H' → Same H H') {k : Str} {kv : V}, τ[0]? = some (some u) → τ[5]? = some (some kv) → (∀ H', G H' → Tp H' kv (.text k)) → EvD G (tCall spManyOf [] E0 (tCons (tVar 0) (tCons (tVar 5) tNil))) τ (.num (manyOf S k)) := by
      intro τ G g k kv h0 h5 hk H' g' Q q
      have tk := hk H' g'
      have := tk.txt_inv
      subst this
      exact ⟨u, h0, _, h5, u, S, k, rfl, tS.up (g H' g'), al.fS, fun H'' s => q _ H'' s (.num _)⟩
    refine q_asgD (G := fun H' => Same H2 H') (d := txD (lightOf S lent)) (EvD.to (ed_tupL (el_lc (xs := kindsOf S) (mk := NestedKey.text) (fun k => decide (manyOf S k ≤ lent)) NestedKey.text (ei_listV (a := ka) (xs := us) (er_var rfl fun H' s => ⟨rfl, s _ _ e2, t2.up s⟩)) (by omega) ?_)) rfl) (Same.refl H2) fun lv H3 s3 tl => ?_
    · intro H' g' k hk x Hx sx tx
      exact eg_name ⟨Same.refl _, rfl, et_cmp (many (fun H'' s => (s02.trans (g'.trans sx)).trans s) rfl rfl fun H'' s => tx.up s) (ed_var rfl fun H'' _ => .num lent) rb_I0, fun _ => ed_var rfl fun H'' s => tx.up s⟩
    have s03 := s02.trans s3
    refine ⟨u, rfl, v, rfl, ?_⟩
    refine el_lc (xs := kindsOf S) (mk := NestedKey.text) (G := fun H' => Same H3 H') (fun k => !decide (k ∈ lightOf S lent)) NestedKey.text (ei_listV (a := ka) (xs := us) (er_var rfl fun H' s => ⟨rfl, s _ _ (s3 _ _ e2), (t2.up s3).up s⟩)) (by omega) ?_ H3 (Same.refl _) _ fun p ws H4 hn4 s4 e4 t4 => ?_
    · intro H' g' k hk x Hx sx tx
      exact eg_name ⟨Same.refl _, rfl, et_cmp (ed_var rfl fun H'' s => tx.up s) (ed_var rfl fun H'' s => tl.up ((g'.trans sx).trans s)) rb_nin, fun _ => ed_var rfl fun H'' s => tx.up s⟩
    have s04 := s03.trans s4
    have hvl : (heavyOf S lent).length ≤ 5 := Nat.le_trans (List.length_filter_le _ _) lk
    have ltl : (lightOf S lent).length ≤ 5 := Nat.le_trans (List.length_filter_le _ _) lk
    refine ⟨u, v, p, ws, S, T, heavyOf S lent, rfl, tS.up s04, tT.up s04, al.len, al.fS.1, few_sh al.fS, few_sh al.fT, e4, t4, hvl, heavy_nodup S lent, heavy_srt S lent, fun x H5 s5 hx => ?_⟩
    have s05 := s04.trans s5
    refine q_gn ?_
    rcases hx with ⟨rfl, nm⟩ | ⟨rs, tx, a2, pm⟩
    · refine q_if (G := fun H' => Same H5 H') (b := true) (fun H' g' Q q => ⟨_, rfl, rfl, _, rfl, q H' (Same.refl _)⟩) (Same.refl H5) (fun _ H6 s6 => hq _ _ (s05.trans s6) (.inl ⟨rfl, nm⟩)) (fun z => nomatch z)
    · obtain ⟨xa, xs, rfl, hxr, hxt⟩ := tx.tup_inv
      refine q_if (G := fun H' => Same H5 H') (b := false) (fun H' g' Q q => ⟨_, rfl, rfl, _, rfl, q H' (Same.refl _)⟩) (Same.refl H5) (fun z => nomatch z) fun _ H6 s6 => ?_
      have hl := a2.length
      have hwl : (wordsOf S T).length = S.length := by unfold wordsOf; rw [List.length_map, List.length_zip, al.len]; omega
      have hfl : rs.flatten.length ≤ 5 := by rw [pm.length_eq]; exact hvl
      cases rs with
      | nil => have := al.pos; rw [List.length_nil, hwl] at hl; omega
      | cons r rs =>
        have hr : r.length ≤ 5 := Nat.le_trans (mem_flat_len List.mem_cons_self) hfl
        have hlen : rs.length + 1 ≤ 100 := by have := al.fS.1; rw [List.length_cons, hwl] at hl; omega
        have tx6 : Tp H6 (.ref xa) (rowsD (r :: rs)) := tx.up s6
        have tl6 : Tp H6 lv (txD (lightOf S lent)) := ((tl.up s4).up s5).up s6
        refine q_asgD (G := fun H' => Same H6 H') (d := rowsD (addLight (lightOf S lent) (r :: rs))) (EvD.to (ed_op (ed_tup (ea_cons (d := txD (r ++ lightOf S lent)) (EvD.to (ed_op (ed_ixc (d := txD r) (ed_var (d := rowsD (r :: rs)) rfl fun H' s => tx6.up s) (atI_nat (j := 0) rfl)) (ed_var rfl fun H' s => tl6.up s) (rd_cat ?_)) ?_) ea_nil) (show 1 ≤ 100000 by decide)) (ed_sl (ed_var (d := rowsD (r :: rs)) rfl fun H' s => tx6.up s) (eo_some ed_int) eo_none) (rd_cat ?_)) ?_) (Same.refl H6) fun rv H7 s7 tr => ?_
        · simp only [List.length_map]; omega
        · rw [← List.map_append]
        · rw [show (1 : Int) = ((1 : Nat) : Int) from rfl, cut_from]
          simp only [List.length_drop, List.length_map, List.length_cons, List.length_nil]; omega
        · rw [show (1 : Int) = ((1 : Nat) : Int) from rfl, cut_from]; rfl
        have s07 := (s05.trans s6).trans s7
        refine q_retD (G := fun H' => Same H7 H') (d := stD (metSt S (addLight (lightOf S lent) (r :: rs)))) (EvD.to (ed_tupL (el_lcM (xs := addLight (lightOf S lent) (r :: rs)) (mk := txD) (fun q => shD (q.map fun k => (k, manyOf S k))) (ei_tup (ed_var rfl fun H' s => tr.up s)).ei (by show rs.length + 1 ≤ _; omega) ?_)) ?_) (Same.refl H7) fun z H8 s8 tz => hq _ _ (s07.trans s8) (.inr ⟨r :: rs, tz, a2, pm⟩)
        · intro H' g' q hqm x Hx sx tx
          have hql : q.length ≤ 100 := by
            rcases List.mem_cons.mp (show q ∈ (r ++ lightOf S lent) :: rs from hqm) with e | e
            · rw [e, List.length_append]; omega
            · have := mem_flat_len (List.mem_cons_of_mem r e); omega
          refine eg_name ⟨Same.refl _, rfl, et_yes, EvD.to (ed_tupL (el_lcM (xs := q) (mk := NestedKey.text) (fun k => bkD (k, manyOf S k)) (ei_tup (ed_var rfl fun H'' s => tx.up s)).ei (by omega) ?_)) ?_⟩
          · intro H'' g'' k hk y Hy sy ty
            exact eg_name ⟨Same.refl _, rfl, et_yes, ed_tup (ea_cons (ed_var rfl fun H3 s => ty.up s) (ea_cons (many (fun H3 s => (s07.trans (g'.trans sx)).trans ((g''.trans sy).trans s)) rfl rfl fun H3 s => ty.up s) ea_nil)) (show 2 ≤ 100000 by decide)⟩
          · unfold shD
            rw [List.map_map]
            rfl
        · unfold metSt stD
          rw [List.map_map]
          rfl
abbrev nMeets : List Str := ["one", "other", "lent"]
theorem sc_Meets : FnScope nMeets ["one", "other", "lent"] (defScope (K81.top 14)) := ⟨rfl, rfl, rfl, by decide +kernel, rfl, by decide +kernel, by decide +kernel⟩
def spMeets : Sp := fun vs H Q _ => ∃ (u v : V) (S T : List Sh) (lent : Int), vs = [u, v, .int lent] ∧ Tp H u (stD S) ∧ Tp H v (stD T) ∧ Alk S T ∧ ∀ b H', Same H H' → (b = true ↔ KM.Meet (wordsOf S T) (heavyOf S lent)) → Q (.bl b) H'
theorem cal_Meets (B : Bi mg) (D : DfE K mg "meets" 14) (CMeeting : Cal P w K mg base "meeting" 4 ["one", "other", "lent"] spMeeting) : Cal P w K mg base "meets" 5 ["one", "other", "lent"] spMeets := by
  obtain ⟨f, fd, D⟩ := D
  have nd := sc_Meets.nd
  refine D.cal (D.F.ok sc_Meets (fun vs H Q E h => ?_) fun cdv A outer s H vs Q E hr h => ⟨_, PSs.nox
    ((pss_one (ps_ret (pe_cmpR op_notN (pe_callC CMeeting (hr.mono (by decide)) (pa_cons (pv 0) (pa_cons (pv 1) (pa_cons (pv 2) pa_nil)))) pe_non (nomark _))))), ?_⟩)
    (fun kV doc pm an cdv ct us hl => match us, hl with | [_, _, _], _ => rfl)
  · obtain ⟨u, v, S, T, lent, rfl, _⟩ := h; rfl
  · obtain ⟨u, v, S, T, lent, rfl, tS, tT, al, hq⟩ := h
    refine ⟨u, rfl, v, rfl, .int lent, rfl, u, v, S, T, lent, rfl, tS, tT, al, fun x H1 s1 hx => ⟨rfl, ?_⟩⟩
    rcases hx with ⟨rfl, nm⟩ | ⟨rs, tx, a2, pm⟩
    · exact hq false H1 s1 ⟨fun z => (nomatch z), fun z => absurd z nm⟩
    · obtain ⟨xa, xs, rfl, _⟩ := tx.tup_inv
      exact hq true H1 s1 ⟨fun _ => ⟨rs, a2, pm⟩, fun _ => rfl⟩
end
end K8
end

section
set_option Elab.async false
set_option linter.all false
/-! K81: books, plainly. -/
namespace K8
open PySem
abbrev Rw := Str × Int
/-- books of a kind in rows -/
def cnt (rows : List Rw) (k : Str) : Int := ((rows.filter fun p => decide (p.1 = k)).map (·.2)).sum
theorem cnt_nil (k : Str) : cnt [] k = 0 := rfl
theorem cnt_app (a b : List Rw) (k : Str) : cnt (a ++ b) k = cnt a k + cnt b k := by
  unfold cnt
  rw [List.filter_append, List.map_append, List.sum_append]
theorem cnt_cons (p : Rw) (a : List Rw) (k : Str) : cnt (p :: a) k = (if p.1 = k then p.2 else 0) + cnt a k := by
  unfold cnt
  rw [List.filter_cons]
  by_cases h : p.1 = k
  · rw [if_pos (decide_eq_true h), if_pos h, List.map_cons, List.sum_cons]
  · rw [if_neg (by simpa using h), if_neg h]; omega
theorem cnt_one (p : Rw) (k : Str) : cnt [p] k = if p.1 = k then p.2 else 0 := by rw [cnt_cons, cnt_nil]; omega
theorem many_cnt (S : List Sh) (k : Str) : manyOf S k = cnt (S.flatMap fun s => s) k := by
  unfold manyOf cnt
  congr 1
  induction S with
  | nil => rfl
  | cons s S ih => rw [List.flatMap_cons, List.flatMap_cons, List.filter_append, List.map_append, ih]
theorem cnt_perm {a b : List Rw} (h : a.Perm b) (k : Str) : cnt a k = cnt b k := by
  induction h with
  | nil => rfl
  | cons x _ ih => rw [cnt_cons, cnt_cons, ih]
  | swap x y l => rw [cnt_cons, cnt_cons, cnt_cons, cnt_cons]; omega
  | trans _ _ h1 h2 => rw [h1, h2]
theorem cnt_nonneg {rows : List Rw} (h : ∀ p ∈ rows, 0 ≤ p.2) (k : Str) : 0 ≤ cnt rows k := by
  induction rows with
  | nil => exact Int.le_refl _
  | cons p r ih =>
    rw [cnt_cons]
    have h1 := h p List.mem_cons_self
    have h2 := ih fun q hq => h q (List.mem_cons_of_mem _ hq)
    split <;> omega
theorem cnt_mem {rows : List Rw} (h : ∀ p ∈ rows, 0 ≤ p.2) {p : Rw} (hp : p ∈ rows) : p.2 ≤ cnt rows p.1 := by
  induction rows with
  | nil => cases hp
  | cons q r ih =>
    rw [cnt_cons]
    have h1 := h q List.mem_cons_self
    have h0 := cnt_nonneg (rows := r) (fun q hq => h q (List.mem_cons_of_mem _ hq)) p.1
    rcases List.mem_cons.mp hp with e | hp
    · subst e; rw [if_pos rfl]; omega
    · have h2 := ih (fun q hq => h q (List.mem_cons_of_mem _ hq)) hp
      split <;> omega
theorem cnt_zero {rows : List Rw} {k : Str} (h : k ∉ rows.map (·.1)) : cnt rows k = 0 := by
  induction rows with
  | nil => rfl
  | cons q r ih =>
    rw [List.map_cons, List.mem_cons] at h
    rw [cnt_cons, if_neg (fun e => h (.inl e.symm)), ih fun e => h (.inr e)]
    omega
theorem cnt_pos {rows : List Rw} (h : ∀ p ∈ rows, 0 < p.2) (k : Str) : 0 < cnt rows k ↔ k ∈ rows.map (·.1) := by
  constructor
  · intro h1
    by_cases hk : k ∈ rows.map (·.1)
    · exact hk
    · rw [cnt_zero hk] at h1; omega
  · intro hk
    obtain ⟨p, hp, rfl⟩ := List.mem_map.mp hk
    have h1 := h p hp
    have h2 := cnt_mem (fun q hq => Int.le_of_lt (h q hq)) hp
    omega
/-! ### put together -/
def ptStep (f : List Rw) (p : Rw) : List Rw :=
  if 0 < p.2 then (match f.getLast? with | some q => if q.1 = p.1 then f.dropLast ++ [(p.1, q.2 + p.2)] else f ++ [p] | none => f ++ [p]) else f
def putTog (rows : List Rw) : List Rw := rows.foldl ptStep []
theorem last_split {f : List Rw} {q : Rw} (h : f.getLast? = some q) : f = f.dropLast ++ [q] := by
  obtain ⟨ys, rfl⟩ := List.getLast?_eq_some_iff.mp h
  rw [List.dropLast_concat]
theorem ptStep_cnt (f : List Rw) (p : Rw) (k : Str) : cnt (ptStep f p) k = cnt f k + (if 0 < p.2 then (if p.1 = k then p.2 else 0) else 0) := by
  unfold ptStep
  by_cases h : 0 < p.2
  · rw [if_pos h, if_pos h]
    cases hl : f.getLast? with
    | none => show cnt (f ++ [p]) k = _; rw [cnt_app, cnt_one]
    | some q =>
      show cnt (if q.1 = p.1 then f.dropLast ++ [(p.1, q.2 + p.2)] else f ++ [p]) k = _
      by_cases e : q.1 = p.1
      · rw [if_pos e]
        have hs := last_split hl
        have e1 : cnt f k = cnt f.dropLast k + (if q.1 = k then q.2 else 0) := by
          have : cnt f k = cnt (f.dropLast ++ [q]) k := by rw [← hs]
          rw [this, cnt_app, cnt_one]
        rw [cnt_app, cnt_one, e1, e]
        show _ + (if p.1 = k then q.2 + p.2 else 0) = _
        by_cases hk : p.1 = k
        · rw [if_pos hk, if_pos hk, if_pos hk]; omega
        · rw [if_neg hk, if_neg hk, if_neg hk]; omega
      · rw [if_neg e, cnt_app, cnt_one]
  · rw [if_neg h, if_neg h]; omega
theorem ptStep_pos {f : List Rw} (hf : ∀ p ∈ f, 0 < p.2) (p : Rw) : ∀ q ∈ ptStep f p, 0 < q.2 := by
  intro q hq
  unfold ptStep at hq
  by_cases h : 0 < p.2
  · rw [if_pos h] at hq
    cases hl : f.getLast? with
    | none =>
      rw [hl] at hq
      rcases List.mem_append.mp hq with hq | hq
      · exact hf q hq
      · rw [List.mem_singleton.mp hq]; exact h
    | some z =>
      rw [hl] at hq
      have hz : z ∈ f := by rw [last_split hl]; simp
      simp only at hq
      by_cases e : z.1 = p.1
      · rw [if_pos e] at hq
        rcases List.mem_append.mp hq with hq | hq
        · exact hf q (List.dropLast_subset f hq)
        · rw [List.mem_singleton.mp hq]
          have := hf z hz
          show 0 < z.2 + p.2
          omega
      · rw [if_neg e] at hq
        rcases List.mem_append.mp hq with hq | hq
        · exact hf q hq
        · rw [List.mem_singleton.mp hq]; exact h
  · rw [if_neg h] at hq; exact hf q hq
theorem ptStep_kinds {f : List Rw} {p : Rw} {k : Str} (h : k ∈ (ptStep f p).map (·.1)) : k ∈ f.map (·.1) ∨ k = p.1 := by
  unfold ptStep at h
  by_cases h0 : 0 < p.2
  · rw [if_pos h0] at h
    cases hl : f.getLast? with
    | none => rw [hl] at h; simpa using h
    | some z =>
      rw [hl] at h
      simp only at h
      by_cases e : z.1 = p.1
      · rw [if_pos e, List.map_append] at h
        rcases List.mem_append.mp h with h | h
        · obtain ⟨q, hq, rfl⟩ := List.mem_map.mp h
          exact .inl (List.mem_map.mpr ⟨q, List.dropLast_subset f hq, rfl⟩)
        · exact .inr (by simpa using h)
      · rw [if_neg e] at h; simpa using h
  · rw [if_neg h0] at h; exact .inl h
theorem ptStep_len (f : List Rw) (p : Rw) : (ptStep f p).length ≤ f.length + 1 := by
  unfold ptStep
  by_cases h : 0 < p.2
  · rw [if_pos h]
    cases hl : f.getLast? with
    | none => show (f ++ [p]).length ≤ _; simp
    | some z =>
      simp only
      by_cases e : z.1 = p.1
      · rw [if_pos e, List.length_append, List.length_dropLast]; show f.length - 1 + 1 ≤ _; omega
      · rw [if_neg e]; simp
  · rw [if_neg h]; omega
theorem putTog_snoc (rows : List Rw) (p : Rw) : putTog (rows ++ [p]) = ptStep (putTog rows) p := by
  unfold putTog
  rw [List.foldl_append]
  rfl
theorem putTog_ind {P : List Rw → List Rw → Prop} (h0 : P [] []) (hs : ∀ rows p, P rows (putTog rows) → P (rows ++ [p]) (ptStep (putTog rows) p)) : ∀ rows, P rows (putTog rows) := by
  intro rows
  have : ∀ n, n ≤ rows.length → P (rows.take n) (putTog (rows.take n)) := by
    intro n
    induction n with
    | zero => intro _; exact h0
    | succ n ih =>
      intro hn
      have e : rows.take (n + 1) = rows.take n ++ [rows[n]'(by omega)] := by
        rw [List.take_add_one, List.getElem?_eq_getElem (by omega : n < rows.length)]
        rfl
      rw [e, putTog_snoc]
      exact hs _ _ (ih (by omega))
  have h := this rows.length (Nat.le_refl _)
  rw [List.take_length] at h
  exact h
theorem putTog_pos (rows : List Rw) : ∀ p ∈ putTog rows, 0 < p.2 :=
  putTog_ind (P := fun _ f => ∀ p ∈ f, 0 < p.2) (fun p h => (nomatch h)) (fun rows p ih => ptStep_pos ih p) rows
theorem putTog_len (rows : List Rw) : (putTog rows).length ≤ rows.length :=
  putTog_ind (P := fun r f => f.length ≤ r.length) (Nat.le_refl _) (fun rows p ih => by rw [List.length_append]; have := ptStep_len (putTog rows) p; show _ ≤ rows.length + 1; omega) rows
theorem putTog_kinds (rows : List Rw) : ∀ k, k ∈ (putTog rows).map (·.1) → k ∈ rows.map (·.1) :=
  putTog_ind (P := fun r f => ∀ k, k ∈ f.map (·.1) → k ∈ r.map (·.1)) (fun k h => h) (fun rows p ih k hk => by
    rw [List.map_append, List.mem_append]
    rcases ptStep_kinds hk with h | h
    · exact .inl (ih k h)
    · exact .inr (by simp [h])) rows
theorem putTog_cnt {rows : List Rw} (k : Str) : (∀ p ∈ rows, 0 ≤ p.2) → cnt (putTog rows) k = cnt rows k :=
  putTog_ind (P := fun r f => (∀ p ∈ r, 0 ≤ p.2) → cnt f k = cnt r k) (fun _ => rfl) (fun rows p ih hp => by
    rw [ptStep_cnt, ih fun q hq => hp q (List.mem_append_left _ hq), cnt_app, cnt_one]
    have := hp p (List.mem_append_right _ (List.mem_singleton.mpr rfl))
    by_cases h : 0 < p.2
    · rw [if_pos h]
    · rw [if_neg h]
      have : p.2 = 0 := by omega
      rw [this]
      split <;> rfl) rows
/-! ### sums -/
def putS (l : List Rw) (k : Str) (n : Int) : List Rw := if k ∈ l.map (·.1) then l.map (fun p => if p.1 = k then (p.1, n) else p) else l ++ [(k, n)]
def sumsP (rows : List Rw) : List Rw := rows.foldl (fun a p => putS a p.1 (cnt a p.1 + p.2)) []
theorem putS_keys (l : List Rw) (k : Str) (n : Int) : (putS l k n).map (·.1) = if k ∈ l.map (·.1) then l.map (·.1) else l.map (·.1) ++ [k] := by
  unfold putS
  by_cases h : k ∈ l.map (·.1)
  · rw [if_pos h, if_pos h, List.map_map]
    refine List.map_congr_left fun p _ => ?_
    show (if p.1 = k then (p.1, n) else p).1 = p.1
    split <;> rfl
  · rw [if_neg h, if_neg h, List.map_append]
    rfl
theorem putS_nodup {l : List Rw} (hn : (l.map (·.1)).Nodup) (k : Str) (n : Int) : ((putS l k n).map (·.1)).Nodup := by
  rw [putS_keys]
  by_cases h : k ∈ l.map (·.1)
  · rw [if_pos h]; exact hn
  · rw [if_neg h]
    refine List.nodup_append.mpr ⟨hn, by simp, fun x hx y hy e => ?_⟩
    have : y = k := by simpa using hy
    exact h (by rw [← this, ← e]; exact hx)
theorem putS_mem {l : List Rw} {k z : Str} {n : Int} : z ∈ (putS l k n).map (·.1) ↔ z ∈ l.map (·.1) ∨ z = k := by
  rw [putS_keys]
  by_cases h : k ∈ l.map (·.1)
  · rw [if_pos h]
    constructor
    · exact .inl
    · rintro (z | rfl)
      · exact z
      · exact h
  · rw [if_neg h, List.mem_append, List.mem_singleton]
theorem putS_cnt {l : List Rw} (hn : (l.map (·.1)).Nodup) (k z : Str) (n : Int) : cnt (putS l k n) z = if z = k then n else cnt l z := by
  unfold putS
  by_cases h : k ∈ l.map (·.1)
  · rw [if_pos h]
    induction l with
    | nil => simp at h
    | cons p l ih =>
      rw [List.map_cons] at hn h ⊢
      obtain ⟨h1, h2⟩ := List.nodup_cons.mp hn
      by_cases e : p.1 = k
      · rw [if_pos e, cnt_cons, cnt_cons]
        have e2 : l.map (fun p => if p.1 = k then (p.1, n) else p) = l := by
          have : l.map (fun p => if p.1 = k then (p.1, n) else p) = l.map id := List.map_congr_left fun q hq => by
            rw [if_neg]; rfl
            intro e3
            exact h1 (List.mem_map.mpr ⟨q, hq, by rw [e3, e]⟩)
          rw [this, List.map_id]
        rw [e2]
        by_cases hz : z = k
        · subst hz
          rw [if_pos e, if_pos rfl, cnt_zero (by rw [← e]; exact h1)]
          show n + 0 = n
          omega
        · rw [if_neg hz, if_neg (fun q => hz (by rw [← q, e])), if_neg (fun q => hz (by rw [← q]; exact e))]
      · rw [if_neg e, cnt_cons, cnt_cons]
        have hk : k ∈ l.map (·.1) := by
          rcases List.mem_cons.mp h with h | h
          · exact absurd h.symm e
          · exact h
        rw [ih h2 hk]
        by_cases hz : z = k
        · subst hz
          rw [if_pos rfl, if_pos rfl, if_neg e]; omega
        · rw [if_neg hz, if_neg hz]
  · rw [if_neg h, cnt_app, cnt_one]
    by_cases hz : z = k
    · subst hz
      rw [if_pos rfl, if_pos rfl, cnt_zero h]; omega
    · rw [if_neg hz, if_neg (fun q => hz q.symm)]; omega
theorem sumsP_snoc (rows : List Rw) (p : Rw) : sumsP (rows ++ [p]) = putS (sumsP rows) p.1 (cnt (sumsP rows) p.1 + p.2) := by
  unfold sumsP
  rw [List.foldl_append]
  rfl
theorem sumsP_ok (rows : List Rw) : ((sumsP rows).map (·.1)).Nodup ∧ (∀ z, z ∈ (sumsP rows).map (·.1) ↔ z ∈ rows.map (·.1)) ∧ ∀ z, cnt (sumsP rows) z = cnt rows z := by
  have : ∀ n, n ≤ rows.length → ((sumsP (rows.take n)).map (·.1)).Nodup ∧ (∀ z, z ∈ (sumsP (rows.take n)).map (·.1) ↔ z ∈ (rows.take n).map (·.1)) ∧ ∀ z, cnt (sumsP (rows.take n)) z = cnt (rows.take n) z := by
    intro n
    induction n with
    | zero => intro _; exact ⟨List.nodup_nil, fun z => Iff.rfl, fun z => rfl⟩
    | succ n ih =>
      intro hn
      obtain ⟨i1, i2, i3⟩ := ih (by omega)
      have e : rows.take (n + 1) = rows.take n ++ [rows[n]'(by omega)] := by
        rw [List.take_add_one, List.getElem?_eq_getElem (by omega : n < rows.length)]
        rfl
      rw [e, sumsP_snoc]
      refine ⟨putS_nodup i1 _ _, fun z => ?_, fun z => ?_⟩
      · rw [putS_mem, i2, List.map_append, List.mem_append]
        simp
      · rw [putS_cnt i1, cnt_app, cnt_one, ← i3 z]
        by_cases hz : z = (rows[n]'(by omega)).1
        · rw [if_pos hz, if_pos hz.symm, hz]
        · rw [if_neg hz, if_neg (fun q => hz q.symm)]; omega
  have h := this rows.length (Nat.le_refl _)
  rw [List.take_length] at h
  exact h
theorem sumsP_len (rows : List Rw) : (sumsP rows).length ≤ rows.length := by
  have : ∀ (l a : List Rw), (l.foldl (fun a p => putS a p.1 (cnt a p.1 + p.2)) a).length ≤ a.length + l.length := by
    intro l
    induction l with
    | nil => intro a; exact Nat.le_refl _
    | cons p l ih =>
      intro a
      have h1 := ih (putS a p.1 (cnt a p.1 + p.2))
      have h2 : (putS a p.1 (cnt a p.1 + p.2)).length ≤ a.length + 1 := by
        unfold putS
        split
        · rw [List.length_map]; omega
        · simp
      rw [List.foldl_cons, List.length_cons]
      omega
  have h := this rows []
  rw [List.length_nil, Nat.zero_add] at h
  exact h
end K8
end

section
set_option Elab.async false
set_option linter.all false
set_option maxRecDepth 100000
set_option maxHeartbeats 4000000
/-! K81: _law_put_together. -/
namespace K8
open PySem PySem.Spec PyProof.Rows L2
theorem tx_bk {p : Rw} (h : PyData.strOk p.1 = true) : TxOk (bkD p) := tx_tup fun d hd => by
  rcases List.mem_cons.mp hd with e | hd
  · rw [e]; exact tx_text h
  · rw [List.mem_singleton.mp hd]; exact tx_num
theorem depth_bk (p : Rw) : (bkD p).depth ≤ 1 := Nat.le_refl _
def lastIs (f : List Rw) (k : Str) : Bool := match f.getLast? with
  | some q => decide (q.1 = k)
  | none => false
theorem ed_neg {G : Hp → Prop} {te : TE} {σ : L2.St} {i : Int} (h : EvD G te σ (.num i)) : EvD G (tUn (rU fun i => .int (-i)) te) σ (.num (-i)) := fun H1 g Q q => h H1 g _ fun v H2 s t => by
  cases t
  exact ⟨i, rfl, q _ H2 s (.num _)⟩
theorem pt_yes {f : List Rw} {k : Str} {n : Int} (h : 0 < n) {f' : List Rw} {q : Rw} (e : f = f' ++ [q]) (hq : q.1 = k) : ptStep f (k, n) = f' ++ [(k, q.2 + n)] := by
  subst e
  unfold ptStep
  rw [if_pos h, List.getLast?_concat]
  simp only
  rw [if_pos hq, List.dropLast_concat]
theorem pt_no {f : List Rw} {k : Str} {n : Int} (h : 0 < n) (hl : lastIs f k = false) : ptStep f (k, n) = f ++ [(k, n)] := by
  unfold ptStep
  unfold lastIs at hl
  rw [if_pos h]
  cases e : f.getLast? with
  | none => rfl
  | some q =>
    rw [e] at hl
    simp only at hl ⊢
    rw [if_neg (of_decide_eq_false hl)]
theorem pt_skip {f : List Rw} {k : Str} {n : Int} (h : ¬ 0 < n) : ptStep f (k, n) = f := by
  unfold ptStep
  rw [if_neg h]
theorem lastIs_nil {k : Str} : lastIs [] k = false := rfl
theorem lastIs_snoc {f : List Rw} {q : Rw} {k : Str} : lastIs (f ++ [q]) k = decide (q.1 = k) := by
  unfold lastIs
  rw [List.getLast?_concat]
abbrev nTog : List Str := ["_law_rows", "_law_found", "_law_sort", "_law_size"]
theorem sc_Tog : FnScope nTog ["_law_rows"] (defScope (K81.top 22)) := ⟨rfl, rfl, rfl, by decide +kernel, rfl, by decide +kernel, by decide +kernel⟩
def spTog : Sp := fun vs H Q _ => ∃ (a : Addr) (us : List V) (rows : List Rw), vs = [.ref a] ∧ H a = some (.lst us) ∧ TpA H us (rows.map bkD) ∧ rows.length ≤ 10000 ∧ (∀ p ∈ rows, PyData.strOk p.1 = true) ∧ ∀ v H', Same H H' → Tp H' v (shD (putTog rows)) → Q v H'
section
variable {P : Program} {w : World} {K : PySem.W.Frag} {mg : Str → Option Value} {base : Heap}
theorem cal_Tog (B : Bi mg) (D : DfE K mg "_law_put_together" 22) : Cal P w K mg base "_law_put_together" 1 ["_law_rows"] spTog := by
  obtain ⟨f, fd, D⟩ := D
  have nd := sc_Tog.nd
  refine D.cal (D.F.ok sc_Tog (fun vs H Q E h => ?_) fun cdv A outer s H vs Q E hr h => ⟨_, PSs.nox
    ((pss_cons (ps_set (i := 1) nd rfl (by first | exact Or.inl rfl | exact Or.inr rfl) (pe_lst pa_nil))
      (pss_cons (ps_for PassesOwn.never rfl (pi_list (pv 0)) (pg_tup rfl (pgs_cons (pg_name (i := 2) nd rfl (by first | exact Or.inl rfl | exact Or.inr rfl)) (pgs_cons (pg_name (i := 3) nd rfl (by first | exact Or.inl rfl | exact Or.inr rfl)) pgs_nil))) (pss_one (ps_if (PW.pt (pw_and (pt_cmpR op_gt (pv 3) pe_int (nomark _)) (pw_and (pt_cmpR (op_neD hr.units) (pv 1) (pe_lst pa_nil) (nomark _)) (pw_and1 (pt_cmpR op_eq (pe_ix ix_tup (pe_ix ix_list (pv 1) (pe_un un_neg pe_int) (fun _ _ => rfl)) pe_int (fun _ _ => rfl)) (pv 2) (nomark _)))))) (pss_one (ps_asg (pe_tup (pa_cons (pv 2) (pa_cons (pe_op op_add (pe_ix ix_tup (pe_ix ix_list (pv 1) (pe_un un_neg pe_int) (fun _ _ => rfl)) pe_int (fun _ _ => rfl)) (pv 3)) pa_nil))) (pg_sub (pv 1) (pe_un un_neg pe_int) set_list))) (pss_one (ps_if (pt_cmpR op_gt (pv 3) pe_int (nomark _)) (pss_one (ps_expr (pe_bm PySem.F.plainAttrs_list PySem.F.slot_list_append PySem.F.type_list_append mt_append (pv 1) (pa_cons (pe_tup (pa_cons (pv 2) (pa_cons (pv 3) pa_nil))) pa_nil)))) pss_nil)))))
      (pss_one (ps_ret (pe_callTy call_tuple_of rfl B.tuple boot_tuple (pa_cons (pv 1) pa_nil))))))), ?_⟩)
    (fun kV doc pm an cdv ct us hl => match us, hl with | [_], _ => rfl)
  · obtain ⟨a, us, rows, rfl, _⟩ := h; rfl
  · obtain ⟨a, us, rows, rfl, ha, tu, hl, hok, hq⟩ := h
    refine q_asgL (G := fun H' => Same H H') (el_lst ea_nil (by decide)) (Same.refl H) fun l ls H1 hl0 s1 el tl => ?_
    cases tl
    have hHl : H l = none := hl0
    refine q_forL (G := fun H' => Same H1 H') (a := a) (us := us) (xs := rows) (mk := bkD) (er_var rfl fun _ _ => rfl) (Same.refl H1) (s1 _ _ ha) (tu.up s1) (fun i τ H' => ∃ o1 o2 fs, τ = [some (.ref a), some (.ref l), o1, o2] ∧ Ts H1 H' ∧ Same H H' ∧ H' l = some (.lst fs) ∧ TpA H' fs ((putTog (rows.take i)).map bkD)) ?_ ?_ ?_ ?_
    · exact fun H2 s2 => ⟨none, none, [], rfl, Ts.of s2, s1.trans s2, s2 _ _ el, .nil⟩
    · rintro i τ H' ⟨o1, o2, fs, _, t4, s2, _⟩
      exact ⟨s2 _ _ ha, t4⟩
    · rintro i p τ H' x hp hpm ⟨o1, o2, fs, rfl, ts, s2, e2, tf⟩ tx
      have hi : i < rows.length := (List.getElem?_eq_some_iff.mp hp).1
      have htk : rows.take (i + 1) = rows.take i ++ [p] := by rw [List.take_add_one, hp]; rfl
      have hF : ∀ q ∈ putTog (rows.take i), PyData.strOk q.1 = true := fun q hq => by
        obtain ⟨q', hq', e⟩ := List.mem_map.mp (putTog_kinds _ q.1 (List.mem_map.mpr ⟨q, hq, rfl⟩))
        rw [← e]
        exact hok q' (List.mem_of_mem_take hq')
      have hFl : (putTog (rows.take i)).length ≤ 10000 := Nat.le_trans (putTog_len _) (by rw [List.length_take]; omega)
      generalize hfe : putTog (rows.take i) = ff at tf hF hFl
      have hst : putTog (rows.take (i + 1)) = ptStep ff p := by rw [htk, putTog_snoc, hfe]
      obtain ⟨k, n⟩ := p
      have hfl : fs.length = ff.length := by rw [tf.length, List.length_map]
      refine eg_pair tx fun uk un tk tn => ?_
      have e1 := tk.txt_inv
      have e2' := tn.num_inv
      subst e1
      subst e2'
      have es : ∀ {H3 : Hp} (_ : Same H' H3) {τ : L2.St} (_ : τ[1]? = some (some (.ref l))), EvS (fun H'' => Same H3 H'') (tVar 1) τ (ff.map bkD) := fun s3 _ h1 => es_var h1 fun H'' s => ⟨fs, s _ _ (s3 _ _ e2), (tf.up s3).up s⟩
      have lst : ∀ {H3 : Hp} (_ : Same H' H3) {τ : L2.St} (_ : τ[1]? = some (some (.ref l))) {f' : List Rw} {q : Rw} (_ : ff = f' ++ [q]), EvD (fun H'' => Same H3 H'') (tOp (rIxL K) (tVar 1) (tUn (rU fun i => .int (-i)) (tC (.int 1)))) τ (bkD q) := fun s3 _ h1 _ _ e => ed_ixL (es s3 h1) (ed_neg ed_int) (by rw [e, List.map_append]; exact atI_last _ _)
      refine q_if (G := fun H'' => Same H' H'') (b := decide (0 < n) && (!ff.isEmpty && lastIs ff k)) (et_and (c := !ff.isEmpty && lastIs ff k) (et_cmp (ed_var rfl fun _ _ => .num n) ed_int rb_I0) fun hn => et_and (c := lastIs ff k) (et_test (EvB.to (eb_neNil (ds := ff.map bkD) ?_ ?_ (es (Same.refl _) rfl)) ?_)) fun hne => ?_) (Same.refl H') (fun hb H3 s3 => ?_) fun hb H3 s3 => ?_
      · intro d hd
        obtain ⟨q, hq, rfl⟩ := List.mem_map.mp hd
        exact tx_bk (hF q hq)
      · intro d hd
        obtain ⟨q, hq, rfl⟩ := List.mem_map.mp hd
        exact Nat.le_trans (depth_bk q) (by decide)
      · rw [List.isEmpty_map]
      · rcases List.eq_nil_or_concat ff with e | ⟨f', q, e⟩
        · rw [e] at hne; simp at hne
        · rw [List.concat_eq_append] at e
          rw [e, lastIs_snoc]
          exact et_cmp (ed_ixc (lst (Same.refl _) rfl e) (atI_nat (j := 0) rfl)) (ed_var rfl fun _ _ => .txt k) rb_eqS
      · rw [Bool.and_eq_true, Bool.and_eq_true] at hb
        obtain ⟨b1, b2, b3⟩ := hb
        rcases List.eq_nil_or_concat ff with e | ⟨f', q, e⟩
        · rw [e] at b2; simp at b2
        · rw [List.concat_eq_append] at e
          have hqk : q.1 = k := by rw [e, lastIs_snoc] at b3; exact of_decide_eq_true b3
          refine ed_tup (G := fun H'' => Same H3 H'') (ds := [.text k, .num (q.2 + n)]) (ea_cons (ed_var rfl fun _ _ => .txt k) (ea_cons (ed_op (ed_ixc (lst s3 rfl e) (atI_nat (j := 1) rfl)) (ed_var rfl fun _ _ => .num n) rd_I0) ea_nil)) (show 2 ≤ 100000 by decide) H3 (Same.refl _) _ fun v H4 s4 t4 => ?_
          refine ⟨.ref l, rfl, ed_neg (G := fun H'' => Same H4 H'') ed_int H4 (Same.refl _) _ fun nv H5 s5 t5 => ?_⟩
          cases t5
          have s35 := s3.trans (s4.trans s5)
          have e5 := s35 _ _ e2
          have hlen : fs.length = f'.length + 1 := by rw [hfl, e]; simp
          refine ⟨l, fs, -1, f'.length, rfl, rfl, e5, ?_, ?_⟩
          · unfold ixN
            rw [if_neg (by decide), if_pos (by omega)]
            congr 1
            omega
          · refine ⟨_, _, fs.set f'.length v, rfl, (ts.trans (Ts.of s35)).trans (Ts.lst e5), same_D (s2.trans s35) hHl, by simp [upd], ?_⟩
            rw [hst, pt_yes (of_decide_eq_true b1) e hqk]
            have z := (TpA.set f'.length (t4.up s5) (tf.up s35)).mono (Ts.lst (o := .lst (fs.set f'.length v)) e5)
            have e6 : (ff.map bkD).set f'.length (.tup [.text k, .num (q.2 + n)]) = (f' ++ [(k, q.2 + n)]).map bkD := by
              rw [e, List.map_append, List.map_append, List.set_append_right _ _ (by simp)]
              simp [bkD]
            rw [e6] at z
            exact z
      · refine q_if (G := fun H'' => Same H3 H'') (b := decide (0 < n)) (et_cmp (ed_var rfl fun _ _ => .num n) ed_int rb_I0) (Same.refl H3) (fun hn H4 s4 => ?_) fun hn H4 s4 => ?_
        · have hno : lastIs ff k = false := by
            rw [hn, Bool.true_and] at hb
            cases hl : lastIs ff k with
            | false => rfl
            | true =>
              rw [hl, Bool.and_true] at hb
              have : ff = [] := by simpa using hb
              rw [this] at hl
              cases hl
          have s34 := s3.trans s4
          refine q_append (G := fun H'' => Same H4 H'') (d := bkD (k, n)) (us := fs) rfl (ed_tup (ea_cons (ed_var rfl fun _ _ => .txt k) (ea_cons (ed_var rfl fun _ _ => .num n) ea_nil)) (show 2 ≤ 100000 by decide)) (Same.refl H4) (s34 _ _ e2) (by omega) fun v H5 s5 t5 => ?_
          have s35 := s34.trans s5
          have e5 := s35 _ _ e2
          refine ⟨_, _, fs ++ [v], rfl, (ts.trans (Ts.of s35)).trans (Ts.lst e5), same_D (s2.trans s35) hHl, by simp [upd], ?_⟩
          rw [hst, pt_no (of_decide_eq_true hn) hno, List.map_append]
          exact ((tf.up s35).snoc t5).mono (Ts.lst e5)
        · have s34 := s3.trans s4
          refine ⟨_, _, fs, rfl, ts.trans (Ts.of s34), s2.trans s34, s34 _ _ e2, ?_⟩
          rw [hst, pt_skip (of_decide_eq_false hn)]
          exact tf.up s34
    · rintro τ H' ⟨o1, o2, fs, rfl, ts, s2, e2, tf⟩
      rw [List.take_length] at tf
      refine ⟨.ref l, rfl, l, fs, rfl, .inl ⟨.inl (.inl e2), fun q hq' => hq _ _ (s2.trans (same_new hq')) (tp_new hq' tf)⟩⟩
end
end K8
end

section
set_option Elab.async false
set_option linter.all false
set_option maxRecDepth 100000
set_option maxHeartbeats 4000000
/-! K81: _law_sums, _law_word. -/
namespace K8
open PySem PySem.Spec PyProof.Rows L2
def kvL (l : List Rw) : List (L2.Key × V) := l.map fun p => (Sum.inr p.1, V.int p.2)
theorem valV_kvL {l : List Rw} (hn : (l.map (·.1)).Nodup) (k : Str) : valV (kvL l) (Sum.inr k) = if k ∈ l.map (·.1) then some (.int (cnt l k)) else none := by
  induction l with
  | nil => rfl
  | cons p l ih =>
    rw [List.map_cons] at hn
    obtain ⟨h1, h2⟩ := List.nodup_cons.mp hn
    show valV ((Sum.inr p.1, V.int p.2) :: kvL l) (Sum.inr k) = _
    by_cases e : p.1 = k
    · rw [valV_pos (by rw [e]), if_pos (by rw [List.map_cons, e]; exact List.mem_cons_self), cnt_cons, if_pos e, cnt_zero (by rw [← e]; exact h1)]
      simp
    · rw [valV_neg (fun z => e (Sum.inr.inj z)), ih h2, cnt_cons, if_neg e]
      have : (k ∈ l.map (·.1)) ↔ k ∈ (p :: l).map (·.1) := by
        rw [List.map_cons, List.mem_cons]
        exact ⟨.inr, fun z => z.resolve_left fun q => e q.symm⟩
      by_cases hk : k ∈ l.map (·.1)
      · rw [if_pos hk, if_pos (this.mp hk)]; simp
      · rw [if_neg hk, if_neg (fun z => hk (this.mpr z))]
theorem putK_kvL (l : List Rw) (k : Str) (n : Int) : putK (kvL l) (Sum.inr k) (.int n) = kvL (putS l k n) := by
  unfold putK putS kvL
  have e : ((l.map fun p => ((Sum.inr p.1, V.int p.2) : L2.Key × V)).any fun kv => decide (kv.1 = Sum.inr k)) = decide (k ∈ l.map (·.1)) := by
    rw [Bool.eq_iff_iff, List.any_eq_true, decide_eq_true_eq]
    constructor
    · rintro ⟨x, hx, hd⟩
      obtain ⟨p, hp, rfl⟩ := List.mem_map.mp hx
      exact List.mem_map.mpr ⟨p, hp, Sum.inr.inj (of_decide_eq_true hd)⟩
    · intro h
      obtain ⟨p, hp, rfl⟩ := List.mem_map.mp h
      exact ⟨_, List.mem_map.mpr ⟨p, hp, rfl⟩, decide_eq_true rfl⟩
  rw [e]
  by_cases h : k ∈ l.map (·.1)
  · rw [if_pos (decide_eq_true h), if_pos h, List.map_map, List.map_map]
    refine List.map_congr_left fun p _ => ?_
    show (if (Sum.inr p.1 : L2.Key) = Sum.inr k then _ else _) = _
    by_cases q : p.1 = k
    · rw [if_pos (by rw [q])]
      show _ = ((Sum.inr (if p.1 = k then (p.1, n) else p).1, V.int (if p.1 = k then (p.1, n) else p).2) : L2.Key × V)
      rw [if_pos q]
    · rw [if_neg (fun z => q (Sum.inr.inj z))]
      show _ = ((Sum.inr (if p.1 = k then (p.1, n) else p).1, V.int (if p.1 = k then (p.1, n) else p).2) : L2.Key × V)
      rw [if_neg q]
  · rw [if_neg (by simpa using h), if_neg h, List.map_append]
    rfl
def flat (S : List Sh) : List Rw := S.flatMap fun s => s
theorem flat_snoc' (S : List Sh) (s : Sh) : flat (S ++ [s]) = flat S ++ s := by unfold flat; simp
abbrev nSums : List Str := ["_law_here", "_law_found", "_law_plank", "_law_sort", "_law_size"]
theorem sc_Sums : FnScope nSums ["_law_here"] (defScope (K81.top 24)) := ⟨rfl, rfl, rfl, by decide +kernel, rfl, by decide +kernel, by decide +kernel⟩
def spSums : Sp := fun vs H Q _ => ∃ (v : V) (S : List Sh), vs = [v] ∧ Tp H v (stD S) ∧ Few S ∧ ∀ d H', H d = none → Same H H' → H' d = some (.dK (kvL (sumsP (flat S)))) → Q (.ref d) H'
abbrev nWord : List Str := ["_law_plank", "_law_sort", "_law_size"]
theorem sc_Word : FnScope nWord ["_law_plank"] (defScope (K81.top 33)) := ⟨rfl, rfl, rfl, by decide +kernel, rfl, by decide +kernel, by decide +kernel⟩
section
variable {P : Program} {w : World} {K : PySem.W.Frag} {mg : Str → Option Value} {base : Heap}
theorem cal_Sums (B : Bi mg) (D : DfE K mg "_law_sums" 24) : Cal P w K mg base "_law_sums" 1 ["_law_here"] spSums := by
  obtain ⟨f, fd, D⟩ := D
  have nd := sc_Sums.nd
  refine D.cal (D.F.ok sc_Sums (fun vs H Q E h => ?_) fun cdv A outer s H vs Q E hr h => ⟨_, PSs.nox
    ((pss_cons (ps_set (i := 1) nd rfl (by first | exact Or.inl rfl | exact Or.inr rfl) pe_dnewK)
      (pss_cons (ps_for PassesOwn.never rfl (pi_tup (pv 0)) (pg_name (i := 2) nd rfl (by first | exact Or.inl rfl | exact Or.inr rfl)) (pss_one (ps_for PassesOwn.never rfl (pi_tup (pv 2)) (pg_tup rfl (pgs_cons (pg_name (i := 3) nd rfl (by first | exact Or.inl rfl | exact Or.inr rfl)) (pgs_cons (pg_name (i := 4) nd rfl (by first | exact Or.inl rfl | exact Or.inr rfl)) pgs_nil))) (pss_one (ps_dput (hu_of hr) (pv 1) (pv 3) (pe_op op_add (pe_dget2 (hu_of hr) (pv 1) (pv 3) pe_int ⟨rfl, rfl, rfl, rfl⟩) (pv 4)) rfl)))))
      (pss_one (ps_ret (pv 1)))))), ?_⟩)
    (fun kV doc pm an cdv ct us hl => match us, hl with | [_], _ => rfl)
  · obtain ⟨v, S, rfl, _⟩ := h; rfl
  · obtain ⟨v, S, rfl, tv, fw, hq⟩ := h
    intro d hd
    have s1 := same_new (o := .dK []) hd
    have e1 : (upd H d (.dK [])) d = some (.dK (kvL (sumsP []))) := by simp [upd]; rfl
    refine q_nx ?_
    generalize upd H d (.dK []) = H1 at s1 e1 ⊢
    refine q_forJ (G := fun H' => Same H1 H') (xs := S) (mk := shD) (ei_tup (ed_var rfl fun H' s => (tv.up s1).up s)) (Same.refl H1) (fun H2 i τ H' => ∃ o2 o3 o4, τ = [some v, some (.ref d), o2, o3, o4] ∧ Ts H2 H' ∧ Same H H' ∧ H' d = some (.dK (kvL (sumsP (flat (S.take i)))))) ?_ ?_ ?_ ?_
    · exact fun H2 s2 => ⟨none, none, none, rfl, Ts.of (Same.refl _), s1.trans s2, s2 _ _ e1⟩
    · rintro H2 s2 i τ H' ⟨_, _, _, _, t, _⟩; exact t
    · rintro H2 s2 i sh τ H' H'' x hsh hshm ⟨o2, o3, o4, rfl, t, sH, ed⟩ s3 tx
      have htk : flat (S.take (i + 1)) = flat (S.take i) ++ sh := by rw [List.take_add_one, hsh]; exact flat_snoc' _ _
      have hlen : (flat (S.take i) ++ sh).length ≤ 1000 := by
        rw [← htk]
        refine Nat.le_trans ?_ fw.2
        unfold flat
        conv => rhs; rw [← List.take_append_drop (i + 1) S]
        rw [List.flatMap_append, List.length_append]
        exact Nat.le_add_right _ _
      rw [List.length_append] at hlen
      refine eg_name ?_
      refine q_forJ (G := fun H3 => Same H'' H3) (xs := sh) (mk := bkD) (ei_tup (ed_var rfl fun H3 s => tx.up s)) (Same.refl H'') (fun H2' j τ H' => ∃ o3 o4, τ = [some v, some (.ref d), some x, o3, o4] ∧ Ts H2' H' ∧ Ts H2 H' ∧ Same H H' ∧ H' d = some (.dK (kvL (sumsP (flat (S.take i) ++ sh.take j))))) ?_ ?_ ?_ ?_
      · exact fun H2' s2' => ⟨_, _, rfl, Ts.of (Same.refl _), t.trans (Ts.of (s3.trans s2')), (sH.trans s3).trans s2', by rw [List.take_zero, List.append_nil]; exact s2' _ _ (s3 _ _ ed)⟩
      · rintro H2' s2' j τ H' ⟨_, _, _, t, _⟩; exact t
      · rintro H2' s2' j p τ H5 H6 y hp hpm ⟨o3, o4, rfl, t1, t2, sH5, ed5⟩ s56 ty
        obtain ⟨k, n⟩ := p
        refine eg_pair ty fun uk un tk tn => ?_
        have e1 := tk.txt_inv
        have e2 := tn.num_inv
        subst e1
        subst e2
        have e6 := s56 _ _ ed5
        have hok := sumsP_ok (flat (S.take i) ++ sh.take j)
        have hg : ((valV (kvL (sumsP (flat (S.take i) ++ sh.take j))) (Sum.inr k)).getD (.int 0)) = .int (cnt (sumsP (flat (S.take i) ++ sh.take j)) k) := by
          rw [valV_kvL hok.1]
          by_cases hk : k ∈ (sumsP (flat (S.take i) ++ sh.take j)).map (·.1)
          · rw [if_pos hk]; rfl
          · rw [if_neg hk, cnt_zero hk]; rfl
        refine ⟨.ref d, rfl, d, rfl, .inl ⟨_, .inl e6⟩, .str k, rfl, _, DGet.k (k := Sum.inr k) e6, .int n, rfl, cnt (sumsP (flat (S.take i) ++ sh.take j)) k, n, hg, rfl, .ref d, rfl, .str k, rfl, d, _, rfl, DPut.k (k := Sum.inr k) e6 ?_, ?_⟩
        · unfold kvL
          rw [List.length_map]
          have h1 := sumsP_len (flat (S.take i) ++ sh.take j)
          rw [List.length_append, List.length_take] at h1
          have := sizeLine_eq
          omega
        · have htj : flat (S.take i) ++ sh.take (j + 1) = (flat (S.take i) ++ sh.take j) ++ [(k, n)] := by
            rw [List.take_add_one, hp, List.append_assoc]; rfl
          refine ⟨_, _, rfl, (t1.trans (Ts.of s56)).trans (Ts.dk e6), (t2.trans (Ts.of s56)).trans (Ts.dk e6), same_D (sH5.trans s56) hd, ?_⟩
          rw [htj, sumsP_snoc, putK_kvL]
          simp [upd]
      · rintro H2' s2' τ H5 ⟨o3, o4, rfl, t1, t2, sH5, ed5⟩
        rw [List.take_length, ← htk] at ed5
        exact ⟨_, _, _, rfl, t2, sH5, ed5⟩
    · rintro H2 s2 τ H' ⟨o2, o3, o4, rfl, t, sH, ed⟩
      rw [List.take_length] at ed
      exact ⟨_, rfl, hq d H' hd sH ed⟩
theorem cal_Word (B : Bi mg) (D : DfE K mg "_law_word" 33) : Cal P w K mg base "_law_word" 1 ["_law_plank"] spWordOf := by
  obtain ⟨f, fd, D⟩ := D
  have nd := sc_Word.nd
  refine D.cal (D.F.ok sc_Word (fun vs H Q E h => ?_) fun cdv A outer s H vs Q E hr h => ⟨_, PSs.nox
    ((pss_one (ps_ret (pe_callTy call_tuple_ofF rfl B.tuple boot_tuple (pa_cons (pe_lc (wi := (iTup K _)) (g := (gTup K 2 (gCons (gName 1) (gCons (gName 2) gNil)))) (tt := tYes) (te := _) rfl nd (pi_tup (pv 0)) (blkOk_by (own := [("_law_sort", 1), ("_law_size", 2)]) (by kernel_rfl)) (fun _ _ _ _ _ => (pg_tup rfl (pgs_cons (pg_name (i := 1) nd rfl (by first | exact Or.inl rfl | exact Or.inr rfl)) (pgs_cons (pg_name (i := 2) nd rfl (by first | exact Or.inl rfl | exact Or.inr rfl)) pgs_nil)))) (fun _ _ _ _ _ => pts_nil) (fun _ _ _ _ _ => (pv 1))) pa_nil))))), ?_⟩)
    (fun kV doc pm an cdv ct us hl => match us, hl with | [_], _ => rfl)
  · obtain ⟨v, sh, rfl, _⟩ := h; rfl
  · obtain ⟨v, sh, rfl, hv, hl, hq⟩ := h
    refine q_retR (R := fun u H' => Wd H' u (sh.map (·.1))) (G := fun H' => Same H H') (er_word (EvL.to (el_lcM (fun q : Str × Int => .text q.1) (ei_tup (ed_var rfl fun H' s => hv.up s)).ei (by omega) ?_) (by rw [List.map_map]; rfl))) (Same.refl H) fun u H' s t => hq u H' s t
    exact fun H1 g1 q hq x Hx s1 tx => eg_pair tx fun u v tu tv => ⟨Same.refl _, rfl, et_yes, ed_var rfl fun H' s => tu.up s⟩
end
end K8
end

section
set_option Elab.async false
set_option linter.all false
set_option maxRecDepth 100000
set_option maxHeartbeats 4000000
/-! K81: _law_spots, _law_all_spots. -/
namespace K8
open PySem PySem.Spec PyProof.Rows L2
abbrev Sp2 := Nat × Nat
def spotD (p : Sp2) : Dt := .tup [.num (p.1 : Nat), .num (p.2 : Nat)]
def rowIs (s : Sh) (k : Str) (r : Nat) : Bool := match s[r]? with
  | some q => decide (q.1 = k)
  | none => false
def spotsAt (k : Str) (p : Sh × Nat) : List Sp2 := ((List.range p.1.length).filter (rowIs p.1 k)).map fun r => (p.2, r)
def spotsOf (S : List Sh) (k : Str) : List Sp2 := S.zipIdx.flatMap (spotsAt k)
def allAt (p : Sh × Nat) : List Sp2 := (List.range p.1.length).map fun r => (p.2, r)
def allSpots (S : List Sh) : List Sp2 := S.zipIdx.flatMap allAt
def enD (p : Sh × Nat) : Dt := .tup [.num (p.2 : Nat), shD p.1]
theorem en_map (S : List Sh) : ((S.map shD).zipIdx.map fun p => NestedKey.tup [.num (p.2 : Nat), p.1]) = S.zipIdx.map enD := by
  rw [List.zipIdx_map, List.map_map]
  rfl
theorem ei_enS {G : Hp → Prop} {te : TE} {σ : L2.St} {K : PySem.W.Frag} {S : List Sh} (h : EvD G te σ (stD S)) : EvJ G (iEnumT K (tCons te tNil)) σ (S.zipIdx.map enD) := (ei_enumT h).to (en_map S)
theorem atI_sh {s : Sh} {r : Nat} {q : Rw} (h : s[r]? = some q) : atI (s.map bkD) (r : Int) = some (bkD q) := atI_nat (by rw [List.getElem?_map, h]; rfl)
theorem zipIdx_mem_sh {S : List Sh} {p : Sh × Nat} (h : p ∈ S.zipIdx) : p.1 ∈ S ∧ S[p.2]? = some p.1 := by
  obtain ⟨s, a⟩ := p
  have h2 := List.mem_zipIdx_iff_getElem?.mp h
  exact ⟨List.mem_of_getElem? h2, h2⟩
abbrev nSpots : List Str := ["_law_here", "_law_sort", "_law_found", "_law_at", "_law_plank", "_law_row"]
theorem sc_Spots : FnScope nSpots ["_law_here", "_law_sort"] (defScope (K81.top 25)) := ⟨rfl, rfl, rfl, by decide +kernel, rfl, by decide +kernel, by decide +kernel⟩
def spSpots : Sp := fun vs H Q _ => ∃ (v : V) (S : List Sh) (k : Str), vs = [v, .str k] ∧ Tp H v (stD S) ∧ Few S ∧ ∀ p us H', H p = none → Same H H' → H' p = some (.lst us) → TpA H' us ((spotsOf S k).map spotD) → Q (.ref p) H'
abbrev nAll : List Str := ["_law_here", "_law_found", "_law_at", "_law_plank", "_law_row"]
theorem sc_All : FnScope nAll ["_law_here"] (defScope (K81.top 26)) := ⟨rfl, rfl, rfl, by decide +kernel, rfl, by decide +kernel, by decide +kernel⟩
def spAll : Sp := fun vs H Q _ => ∃ (v : V) (S : List Sh), vs = [v] ∧ Tp H v (stD S) ∧ Few S ∧ ∀ p us H', H p = none → Same H H' → H' p = some (.lst us) → TpA H' us ((allSpots S).map spotD) → Q (.ref p) H'
theorem spots_len (f : Sh × Nat → List Sp2) (hf : ∀ p, (f p).length ≤ p.1.length) (l : List (Sh × Nat)) : (l.flatMap f).length ≤ (l.flatMap fun p => p.1).length := by
  induction l with
  | nil => exact Nat.le_refl _
  | cons p l ih =>
    rw [List.flatMap_cons, List.flatMap_cons, List.length_append, List.length_append]
    have := hf p
    omega
theorem zip_flat (S : List Sh) : S.zipIdx.flatMap (fun p => p.1) = flat S := by
  unfold flat
  have : S.zipIdx.flatMap (fun p => p.1) = (S.zipIdx.map (·.1)).flatMap fun s => s := by rw [List.flatMap_map]
  rw [this, List.zipIdx_map_fst]
theorem spots_take {f : Sh × Nat → List Sp2} (hf : ∀ p, (f p).length ≤ p.1.length) {S : List Sh} (fw : Few S) (i : Nat) : ((S.zipIdx.take i).flatMap f).length ≤ 1000 := by
  have h1 := spots_len f hf S.zipIdx
  rw [zip_flat] at h1
  have h2 := fw.2
  have h3 : ((S.zipIdx.take i).flatMap f).length ≤ (S.zipIdx.flatMap f).length := by
    conv => rhs; rw [← List.take_append_drop i S.zipIdx]
    rw [List.flatMap_append, List.length_append]
    exact Nat.le_add_right _ _
  exact Nat.le_trans h3 (Nat.le_trans h1 h2)
theorem spotsAt_len (k : Str) (p : Sh × Nat) : (spotsAt k p).length ≤ p.1.length := by
  unfold spotsAt
  rw [List.length_map]
  exact Nat.le_trans (List.length_filter_le _ _) (by rw [List.length_range]; exact Nat.le_refl _)
theorem allAt_len (p : Sh × Nat) : (allAt p).length ≤ p.1.length := by
  unfold allAt
  rw [List.length_map, List.length_range]
  exact Nat.le_refl _
section
variable {P : Program} {w : World} {K : PySem.W.Frag} {mg : Str → Option Value} {base : Heap}
theorem cal_Spots (B : Bi mg) (D : DfE K mg "_law_spots" 25) : Cal P w K mg base "_law_spots" 1 ["_law_here", "_law_sort"] spSpots := by
  obtain ⟨f, fd, D⟩ := D
  have nd := sc_Spots.nd
  refine D.cal (D.F.ok sc_Spots (fun vs H Q E h => ?_) fun cdv A outer s H vs Q E hr h => ⟨_, PSs.nox
    ((pss_cons (ps_set (i := 2) nd rfl (by first | exact Or.inl rfl | exact Or.inr rfl) (pe_lst pa_nil))
      (pss_cons (ps_for PassesOwn.never rfl (pi_enumT rfl B.enumerate (pa_cons (pv 0) pa_nil)) (pg_tup rfl (pgs_cons (pg_name (i := 3) nd rfl (by first | exact Or.inl rfl | exact Or.inr rfl)) (pgs_cons (pg_name (i := 4) nd rfl (by first | exact Or.inl rfl | exact Or.inr rfl)) pgs_nil))) (pss_one (ps_set (i := 2) nd rfl (by first | exact Or.inl rfl | exact Or.inr rfl) (pe_op op_cat (pv 2) (pe_lc (wi := (iRng1 (tCons (tCB (rLenX K) _) tNil))) (g := (gName 5)) (tt := (tTest (tOp _ (tOp (rIxT K) (tOp (rIxT K) _ _) _) _))) (te := _) rfl nd (pi_range1 rfl B.range (pa_cons (pe_callB call_len_seq rfl B.len PySem.boot_len (pa_cons (pv 4) pa_nil)) pa_nil)) (blkOk_by (own := [("_law_row", 5)]) (by kernel_rfl)) (fun _ _ _ _ _ => (pg_name (i := 5) nd rfl (by first | exact Or.inl rfl | exact Or.inr rfl))) (fun _ _ _ _ _ => (pts_one (pt_cmpR op_eq (pe_ix ix_tup (pe_ix ix_tup (pv 4) (pv 5) (fun _ _ => rfl)) pe_int (fun _ _ => rfl)) (pv 1) (nomark _)))) (fun _ _ _ _ _ => (pe_tup (pa_cons (pv 3) (pa_cons (pv 5) pa_nil)))))))))
      (pss_one (ps_ret (pv 2)))))), ?_⟩)
    (fun kV doc pm an cdv ct us hl => match us, hl with | [_, _], _ => rfl)
  · obtain ⟨v, S, k, rfl, _⟩ := h; rfl
  · obtain ⟨v, S, k, rfl, tv, fw, hq⟩ := h
    refine q_asgL (G := fun H' => Same H H') (el_lst ea_nil (by decide)) (Same.refl H) fun l ls H1 hl0 s1 el tl => ?_
    cases tl
    refine q_forI (G := fun H' => Same H1 H') (xs := S.zipIdx) (mk := enD) (ei_enS (ed_var rfl fun H' s => (tv.up s1).up s)).ei (Same.refl H1) (fun H2 i τ H' => ∃ l fs o3 o4 o5, τ = [some v, some (.str k), some (.ref l), o3, o4, o5] ∧ Same H2 H' ∧ Same H H' ∧ H l = none ∧ H' l = some (.lst fs) ∧ TpA H' fs (((S.zipIdx.take i).flatMap (spotsAt k)).map spotD)) ?_ ?_ ?_ ?_
    · exact fun H2 s2 => ⟨l, [], none, none, none, rfl, Same.refl _, s1.trans s2, hl0, s2 _ _ el, .nil⟩
    · rintro H2 s2 i τ H' ⟨_, _, _, _, _, _, t, _⟩; exact t
    · rintro H2 s2 i p τ H' H'' x hp hpm ⟨l, fs, o3, o4, o5, rfl, t, sH, hl, e, tf⟩ s3 tx
      have hlen := spots_take (spotsAt_len k) fw i
      have hlen2 := spots_take (spotsAt_len k) fw (i + 1)
      have htk : (S.zipIdx.take (i + 1)).flatMap (spotsAt k) = (S.zipIdx.take i).flatMap (spotsAt k) ++ spotsAt k p := by rw [List.take_add_one, hp, List.flatMap_append]; simp
      rw [htk, List.length_append] at hlen2
      have hsl : p.1.length ≤ 1000 := few_sh fw p.1 (zipIdx_mem_sh hpm).1
      refine eg_pair tx fun ua up ta tp => ?_
      have e1 := ta.num_inv
      subst e1
      refine q_asgL (G := fun H3 => Same H'' H3) (ds := (((S.zipIdx.take i).flatMap (spotsAt k)) ++ spotsAt k p).map spotD) (EvL.to (el_cat (es := (spotsAt k p).map spotD) (es_var rfl fun H3 s => ⟨fs, s _ _ (s3 _ _ e), (tf.up s3).up s⟩) (es_of (EvL.to (el_lc (xs := List.range p.1.length) (mk := fun i => NestedKey.num (i : Nat)) (rowIs p.1 k) (fun r => spotD (p.2, r)) (ei_range1 (EvD.to (ed_len (ed_var rfl fun H3 s => tp.up s)) (by rw [List.length_map])) (by omega)).ei (by rw [List.length_range]; omega) ?_) ?_)) ?_) ?_) (Same.refl H'') fun q us H3 hn s4 e4 t4 => ?_
      · intro H3 s4 r hr y H4 s5 ty
        have hr' : r < p.1.length := List.mem_range.mp hr
        have hg : p.1[r]? = some p.1[r] := List.getElem?_eq_getElem hr'
        refine eg_name ⟨Same.refl _, rfl, EvT.to (et_cmp (ed_ixc (d := .text p.1[r].1) (ed_ix (ed_var rfl fun H5 s => tp.up ((s4.trans s5).trans s)) (ed_var rfl fun H5 s => ty.up s) (atI_sh hg)) (atI_nat (j := 0) rfl)) (ed_var rfl fun _ _ => .txt k) rb_eqS) ?_, fun _ => ed_tup (ea_cons (ed_var rfl fun _ _ => .num _) (ea_cons (ed_var rfl fun H5 s => ty.up s) ea_nil)) (show 2 ≤ 100000 by decide)⟩
        unfold rowIs
        rw [hg]
      · unfold spotsAt
        rw [List.map_map]
        rfl
      · rw [List.length_map, List.length_map]; omega
      · rw [List.map_append]
      · refine ⟨q, us, _, _, _, rfl, (t.trans s3).trans s4, (sH.trans s3).trans s4, (sH.trans s3).free hn, e4, ?_⟩
        rw [htk]
        exact t4
    · rintro H2 s2 τ H' ⟨l, fs, o3, o4, o5, rfl, t, sH, hl, e, tf⟩
      rw [List.take_length] at tf
      exact ⟨_, rfl, hq l fs H' hl sH e tf⟩
theorem cal_All (B : Bi mg) (D : DfE K mg "_law_all_spots" 26) : Cal P w K mg base "_law_all_spots" 1 ["_law_here"] spAll := by
  obtain ⟨f, fd, D⟩ := D
  have nd := sc_All.nd
  refine D.cal (D.F.ok sc_All (fun vs H Q E h => ?_) fun cdv A outer s H vs Q E hr h => ⟨_, PSs.nox
    ((pss_cons (ps_set (i := 1) nd rfl (by first | exact Or.inl rfl | exact Or.inr rfl) (pe_lst pa_nil))
      (pss_cons (ps_for PassesOwn.never rfl (pi_enumT rfl B.enumerate (pa_cons (pv 0) pa_nil)) (pg_tup rfl (pgs_cons (pg_name (i := 2) nd rfl (by first | exact Or.inl rfl | exact Or.inr rfl)) (pgs_cons (pg_name (i := 3) nd rfl (by first | exact Or.inl rfl | exact Or.inr rfl)) pgs_nil))) (pss_one (ps_set (i := 1) nd rfl (by first | exact Or.inl rfl | exact Or.inr rfl) (pe_op op_cat (pv 1) (pe_lc (wi := (iRng1 (tCons (tCB (rLenX K) _) tNil))) (g := (gName 4)) (tt := tYes) (te := _) rfl nd (pi_range1 rfl B.range (pa_cons (pe_callB call_len_seq rfl B.len PySem.boot_len (pa_cons (pv 3) pa_nil)) pa_nil)) (blkOk_by (own := [("_law_row", 4)]) (by kernel_rfl)) (fun _ _ _ _ _ => (pg_name (i := 4) nd rfl (by first | exact Or.inl rfl | exact Or.inr rfl))) (fun _ _ _ _ _ => pts_nil) (fun _ _ _ _ _ => (pe_tup (pa_cons (pv 2) (pa_cons (pv 4) pa_nil)))))))))
      (pss_one (ps_ret (pv 1)))))), ?_⟩)
    (fun kV doc pm an cdv ct us hl => match us, hl with | [_], _ => rfl)
  · obtain ⟨v, S, rfl, _⟩ := h; rfl
  · obtain ⟨v, S, rfl, tv, fw, hq⟩ := h
    refine q_asgL (G := fun H' => Same H H') (el_lst ea_nil (by decide)) (Same.refl H) fun l ls H1 hl0 s1 el tl => ?_
    cases tl
    refine q_forI (G := fun H' => Same H1 H') (xs := S.zipIdx) (mk := enD) (ei_enS (ed_var rfl fun H' s => (tv.up s1).up s)).ei (Same.refl H1) (fun H2 i τ H' => ∃ l fs o3 o4 o5, τ = [some v, some (.ref l), o3, o4, o5] ∧ Same H2 H' ∧ Same H H' ∧ H l = none ∧ H' l = some (.lst fs) ∧ TpA H' fs (((S.zipIdx.take i).flatMap allAt).map spotD)) ?_ ?_ ?_ ?_
    · exact fun H2 s2 => ⟨l, [], none, none, none, rfl, Same.refl _, s1.trans s2, hl0, s2 _ _ el, .nil⟩
    · rintro H2 s2 i τ H' ⟨_, _, _, _, _, _, t, _⟩; exact t
    · rintro H2 s2 i p τ H' H'' x hp hpm ⟨l, fs, o3, o4, o5, rfl, t, sH, hl, e, tf⟩ s3 tx
      have hlen := spots_take allAt_len fw i
      have hlen2 := spots_take allAt_len fw (i + 1)
      have htk : (S.zipIdx.take (i + 1)).flatMap allAt = (S.zipIdx.take i).flatMap allAt ++ allAt p := by rw [List.take_add_one, hp, List.flatMap_append]; simp
      rw [htk, List.length_append] at hlen2
      have hsl : p.1.length ≤ 1000 := few_sh fw p.1 (zipIdx_mem_sh hpm).1
      refine eg_pair tx fun ua up ta tp => ?_
      have e1 := ta.num_inv
      subst e1
      refine q_asgL (G := fun H3 => Same H'' H3) (ds := (((S.zipIdx.take i).flatMap allAt) ++ allAt p).map spotD) (EvL.to (el_cat (es := (allAt p).map spotD) (es_var rfl fun H3 s => ⟨fs, s _ _ (s3 _ _ e), (tf.up s3).up s⟩) (es_of (EvL.to (el_lcM (xs := List.range p.1.length) (mk := fun i => NestedKey.num (i : Nat)) (fun r => spotD (p.2, r)) (ei_range1 (EvD.to (ed_len (ed_var rfl fun H3 s => tp.up s)) (by rw [List.length_map])) (by omega)).ei (by rw [List.length_range]; omega) ?_) ?_)) ?_) ?_) (Same.refl H'') fun q us H3 hn s4 e4 t4 => ?_
      · intro H3 s4 r hr y H4 s5 ty
        exact eg_name ⟨Same.refl _, rfl, et_yes, ed_tup (ea_cons (ed_var rfl fun _ _ => .num _) (ea_cons (ed_var rfl fun H5 s => ty.up s) ea_nil)) (show 2 ≤ 100000 by decide)⟩
      · unfold allAt
        rw [List.map_map]
        rfl
      · rw [List.length_map, List.length_map]; omega
      · rw [List.map_append]
      · refine ⟨q, us, _, _, _, rfl, (t.trans s3).trans s4, (sH.trans s3).trans s4, (sH.trans s3).free hn, e4, ?_⟩
        rw [htk]
        exact t4
    · rintro H2 s2 τ H' ⟨l, fs, o3, o4, o5, rfl, t, sH, hl, e, tf⟩
      rw [List.take_length] at tf
      exact ⟨_, rfl, hq l fs H' hl sH e tf⟩
end
end K8
end

section
set_option Elab.async false
set_option linter.all false
set_option maxRecDepth 100000
set_option maxHeartbeats 4000000
/-! K81: _law_with, _law_at_the_end. -/
namespace K8
open PySem PySem.Spec PyProof.Rows L2
/-- all texts of real signs -/
def OkS (S : List Sh) : Prop := ∀ s ∈ S, ∀ p ∈ s, PyData.strOk p.1 = true
def moreRows (m : Sp2 → Int) (p : Sh × Nat) : List Rw := p.1.zipIdx.map fun q => (q.1.1, q.1.2 + m (p.2, q.2))
def withSt (S : List Sh) (m : Sp2 → Int) : List Sh := S.zipIdx.map fun p => putTog (moreRows m p)
theorem more_len (m : Sp2 → Int) (p : Sh × Nat) : (moreRows m p).length = p.1.length := by unfold moreRows; rw [List.length_map, List.length_zipIdx]
theorem more_kind {m : Sp2 → Int} {p : Sh × Nat} {q : Rw} (h : q ∈ moreRows m p) : ∃ q' ∈ p.1, q'.1 = q.1 := by
  unfold moreRows at h
  obtain ⟨x, hx, rfl⟩ := List.mem_map.mp h
  obtain ⟨y, i⟩ := x
  exact ⟨y, List.mem_of_getElem? (List.mem_zipIdx_iff_getElem?.mp hx), rfl⟩
def rwD (q : Rw × Nat) : Dt := .tup [.num (q.2 : Nat), bkD q.1]
theorem rw_map (s : Sh) : ((s.map bkD).zipIdx.map fun p => NestedKey.tup [.num (p.2 : Nat), p.1]) = s.zipIdx.map rwD := by
  rw [List.zipIdx_map, List.map_map]
  rfl
section
variable {G : Hp → Prop} {σ : L2.St} {te td tk tx : TE} {K : PySem.W.Frag} {P : Program} {w : World}
theorem ed_tog {rows : List Rw} (h : EvS G te σ (rows.map bkD)) (hl : rows.length ≤ 10000) (hok : ∀ p ∈ rows, PyData.strOk p.1 = true) : EvD G (tCall spTog [] E0 (tCons te tNil)) σ (shD (putTog rows)) := fun H1 g Q q =>
  h H1 g _ fun v H2 s ⟨a, vs, e, e1, t⟩ => by
    subst e
    exact ⟨a, vs, rows, rfl, e1, t, hl, hok, fun v H3 s3 t3 => q v H3 (s.trans s3) t3⟩
/-- tuple(xs), xs a list that stands -/
theorem ed_tupS {ds : List Dt} (h : EvS G te σ ds) : EvD G (tCB (rTupOf K) (tCons te tNil)) σ (.tup ds) := fun H1 g Q q =>
  h H1 g _ fun v H2 s ⟨a, vs, e, e1, t⟩ => by
    subst e
    exact ⟨a, vs, rfl, .inl ⟨.inl (.inl e1), fun l hl => q _ _ (s.trans (same_new hl)) (tp_new hl t)⟩⟩
theorem ed_getN2 [Stb G] {d : Addr} {o : Obj} {xs : List (E3 V)} {k : Dt} {n : Int} (hd : ∀ H, G H → DNo P w H d o xs) (hv : ∀ H Q, G H → (∀ H2, Same H H2 → Q (.ref d) H2) → td σ H Q) (hk : EvD G tk σ k) (kt : ∃ es, k = .tup es) (dp : k.depth ≤ 8) (hx : EvD G tx σ (.num 0)) (hf : (findN xs k).getD (.int 0) = .int n) : EvD G (tGetN2 P w td tk tx) σ (.num n) := fun H1 g Q q => by
  refine hv H1 _ g fun H2 s2 => ⟨d, o, xs, rfl, hd H2 (Stb.up g s2), ?_⟩
  refine hk H2 (Stb.up g s2) _ fun kv H3 s3 t3 => ?_
  refine hx H3 (Stb.up (Stb.up g s2) s3) _ fun z H4 s4 t4 => ?_
  cases t4
  obtain ⟨es, rfl⟩ := kt
  obtain ⟨ka, kxs, rfl, _⟩ := t3.tup_inv
  refine ⟨o, xs, .tup es, ka, hd H4 (Stb.up (Stb.up (Stb.up g s2) s3) s4), rfl, t3.up s4, dp, ?_⟩
  rw [hf]
  exact q _ H4 ((s2.trans s3).trans s4) (.num n)
end
abbrev nWith : List Str := ["_law_here", "_law_more", "_law_found", "_law_at", "_law_plank", "_law_rows", "_law_row", "_law_sort", "_law_size"]
theorem sc_With : FnScope nWith ["_law_here", "_law_more"] (defScope (K81.top 27)) := ⟨rfl, rfl, rfl, by decide +kernel, rfl, by decide +kernel, by decide +kernel⟩
def spWith (P : Program) (w : World) : Sp := fun vs H Q _ => ∃ (v : V) (d : Addr) (o : Obj) (xs : List (E3 V)) (S : List Sh) (m : Sp2 → Int), vs = [v, .ref d] ∧ Tp H v (stD S) ∧ Few S ∧ OkS S ∧ DNo P w H d o xs ∧ (∀ p, (findN xs (spotD p)).getD (.int 0) = .int (m p)) ∧ ∀ u H', Same H H' → Tp H' u (stD (withSt S m)) → Q u H'
section
variable {P : Program} {w : World} {K : PySem.W.Frag} {mg : Str → Option Value} {base : Heap}
theorem cal_With (B : Bi mg) (D : DfE K mg "_law_with" 27) (CLPutTogether : Cal P w K mg base "_law_put_together" 1 ["_law_rows"] spTog) : Cal P w K mg base "_law_with" 2 ["_law_here", "_law_more"] (spWith P w) := by
  obtain ⟨f, fd, D⟩ := D
  have nd := sc_With.nd
  refine D.cal (D.F.ok sc_With (fun vs H Q E h => ?_) fun cdv A outer s H vs Q E hr h => ⟨_, PSs.nox
    ((pss_cons (ps_set (i := 2) nd rfl (by first | exact Or.inl rfl | exact Or.inr rfl) (pe_lst pa_nil))
      (pss_cons (ps_for PassesOwn.never rfl (pi_enumT rfl B.enumerate (pa_cons (pv 0) pa_nil)) (pg_tup rfl (pgs_cons (pg_name (i := 3) nd rfl (by first | exact Or.inl rfl | exact Or.inr rfl)) (pgs_cons (pg_name (i := 4) nd rfl (by first | exact Or.inl rfl | exact Or.inr rfl)) pgs_nil))) (pss_cons (ps_setLc (i := 5) (wi := (iEnumT K _)) (g := (gTup K 2 (gCons (gName 6) (gCons (gTup K 2 (gCons (gName 7) (gCons (gName 8) gNil))) gNil)))) (tt := tYes) (te := (tTup (tCons _ (tCons (tOp _ _ (tGetN2 P w _ _ _)) tNil)))) rfl nd rfl rfl (sw_true rfl rfl rfl (by kernel_rfl)) (pi_enumT rfl B.enumerate (pa_cons (pv 4) pa_nil)) (blkOk_by (own := [("_law_row", 6), ("_law_sort", 7), ("_law_size", 8)]) (by kernel_rfl)) (fun _ _ _ _ _ => (pg_tup rfl (pgs_cons (pg_name (i := 6) nd rfl (by first | exact Or.inl rfl | exact Or.inr rfl)) (pgs_cons (pg_tup rfl (pgs_cons (pg_name (i := 7) nd rfl (by first | exact Or.inl rfl | exact Or.inr rfl)) (pgs_cons (pg_name (i := 8) nd rfl (by first | exact Or.inl rfl | exact Or.inr rfl)) pgs_nil))) pgs_nil)))) (fun _ _ _ _ _ => pts_nil) (fun _ _ _ _ _ => (pe_tup (pa_cons (pv 7) (pa_cons (pe_op op_add (pv 8) (pe_getN2 hr.units (pv 1) (pe_tup (pa_cons (pv 3) (pa_cons (pv 6) pa_nil))) pe_int ⟨rfl, rfl, rfl, rfl⟩)) pa_nil)))))
      (pss_one (ps_expr (pe_bm PySem.F.plainAttrs_list PySem.F.slot_list_append PySem.F.type_list_append mt_append (pv 2) (pa_cons (pe_callC CLPutTogether (hr.mono (by decide)) (pa_cons (pv 5) pa_nil)) pa_nil))))))
      (pss_one (ps_ret (pe_callTy call_tuple_of rfl B.tuple boot_tuple (pa_cons (pv 2) pa_nil))))))), ?_⟩)
    (fun kV doc pm an cdv ct us hl => match us, hl with | [_, _], _ => rfl)
  · obtain ⟨v, d, o, xs, S, m, rfl, _⟩ := h; rfl
  · obtain ⟨v, d, o, xs, S, m, rfl, tv, fw, ok, Dn, hm, hq⟩ := h
    refine q_asgL (G := fun H' => Same H H') (el_lst ea_nil (by decide)) (Same.refl H) fun l ls H1 hl0 s1 el tl => ?_
    cases tl
    refine q_forJ (G := fun H' => Same H1 H') (xs := S.zipIdx) (mk := enD) (ei_enS (ed_var rfl fun H' s => (tv.up s1).up s)) (Same.refl H1) (fun H2 i τ H' => ∃ fs o3 o4 o5 o6 o7 o8, τ = [some v, some (.ref d), some (.ref l), o3, o4, o5, o6, o7, o8] ∧ Ts H2 H' ∧ Same H H' ∧ H' l = some (.lst fs) ∧ TpA H' fs ((S.zipIdx.take i).map fun p => shD (putTog (moreRows m p)))) ?_ ?_ ?_ ?_
    · exact fun H2 s2 => ⟨[], none, none, none, none, none, none, rfl, Ts.of (Same.refl _), s1.trans s2, s2 _ _ el, .nil⟩
    · rintro H2 s2 i τ H' ⟨_, _, _, _, _, _, _, _, t, _⟩; exact t
    · rintro H2 s2 i p τ H' H'' x hp hpm ⟨fs, o3, o4, o5, o6, o7, o8, rfl, t, sH, e, tf⟩ s3 tx
      have hmem := (zipIdx_mem_sh hpm).1
      have hsl : p.1.length ≤ 1000 := few_sh fw p.1 hmem
      refine eg_pair tx fun ua up ta tp => ?_
      have e1 := ta.num_inv
      subst e1
      have sH2 := sH.trans s3
      refine q_asgL (G := fun H3 => Same H'' H3) (ds := (moreRows m p).map bkD) (EvL.to (el_lcM (xs := p.1.zipIdx) (mk := rwD) (fun q => bkD (q.1.1, q.1.2 + m (p.2, q.2))) (((ei_enumT (ed_var rfl fun H3 s => tp.up s)).to (rw_map p.1)).ei) (by rw [List.length_zipIdx]; omega) ?_) ?_) (Same.refl H'') fun q us H3 hn s4 e4 t4 => ?_
      · intro H3 s4 q hq' y H4 s5 ty
        refine eg_pair2 ty fun z1 z2 z3 t1 t2 t3 => ?_
        have e1 := t1.num_inv
        subst e1
        refine ⟨Same.refl _, rfl, et_yes, ed_tup (ea_cons (ed_var rfl fun H5 s => t2.up s) (ea_cons (ed_op (ed_var rfl fun H5 s => t3.up s) (ed_getN2 (o := o) (xs := xs) (d := d) (k := spotD (p.2, q.2)) (n := m (p.2, q.2)) (fun H5 s => Dn.up (((sH2.trans s4).trans s5).trans s)) (fun H5 Q g k => ⟨_, rfl, k H5 (Same.refl _)⟩) (ed_tup (ea_cons (ed_var rfl fun _ _ => .num _) (ea_cons (ed_var rfl fun _ _ => .num _) ea_nil)) (show 2 ≤ 100000 by decide)) ⟨_, rfl⟩ (Nat.le_of_ble_eq_true rfl) ed_int (hm _)) rd_I0) ea_nil)) (show 2 ≤ 100000 by decide)⟩
      · unfold moreRows
        rw [List.map_map]
        rfl
      · refine q_append (G := fun H' => Same H3 H') (us := fs) rfl (ed_tog (rows := moreRows m p) (es_var rfl fun H' s => ⟨us, s _ _ e4, t4.up s⟩) (by rw [more_len]; omega) fun r hr' => ?_) (Same.refl H3) (s4 _ _ (s3 _ _ e)) ?_ fun u H4 s5 t5 => ?_
        · obtain ⟨q', hq', e'⟩ := more_kind hr'
          rw [← e']
          exact ok p.1 hmem q' hq'
        · have := fw.1
          rw [tf.length, List.length_map, List.length_take, List.length_zipIdx]; omega
        · have s35 := (s3.trans s4).trans s5
          have e5 := s35 _ _ e
          refine ⟨fs ++ [u], _, _, _, _, _, _, rfl, (t.trans (Ts.of s35)).trans (Ts.lst e5), same_D (sH.trans s35) hl0, by simp [upd], ?_⟩
          rw [List.take_add_one, hp]
          simp only [Option.toList_some, List.map_append, List.map_cons, List.map_nil]
          exact ((tf.up s35).snoc t5).mono (Ts.lst e5)
    · rintro H2 s2 τ H' ⟨fs, o3, o4, o5, o6, o7, o8, rfl, t, sH, e, tf⟩
      have hl : S.zipIdx.take S.zipIdx.length = S.zipIdx := List.take_length
      rw [hl] at tf
      refine q_retD (G := fun H3 => Same H' H3) (d := stD (withSt S m)) (EvD.to (ed_tupS (es_var rfl fun H3 s => ⟨fs, s _ _ e, tf.up s⟩)) ?_) (Same.refl H') fun u H3 s3 t3 => hq u H3 (sH.trans s3) t3
      unfold withSt stD
      rw [List.map_map]
      rfl
end
end K8
end

section
set_option Elab.async false
set_option linter.all false
set_option maxRecDepth 100000
set_option maxHeartbeats 4000000
/-! K81: _law_at_the_end. -/
namespace K8
open PySem PySem.Spec PyProof.Rows L2
def without (S : List Sh) (k : Str) : List Sh := S.map fun s => putTog (s.filter fun p => !decide (p.1 = k))
def endSt (S : List Sh) (k : Str) (a : Nat) : List Sh := (without S k).take a ++ [(without S k)[a]?.getD [] ++ [(k, cnt (flat S) k)]] ++ (without S k).drop (a + 1)
section
variable {G : Hp → Prop} {σ : L2.St} {te td tk : TE} {K : PySem.W.Frag} {P : Program} {w : World}
theorem el_slL [Stb G] {tl th : TO} {ds : List Dt} {lo hi : Option Int} (h : EvS G te σ ds) (h1 : EvO G tl σ lo) (h2 : EvO G th σ hi) : EvL G (tSl (rSlL K) te tl th) σ (cutD ds lo hi) := fun H1 g Q q =>
  h H1 g _ fun v H2 s ⟨a, vs, e, e1, t⟩ => h1 H2 (Stb.up g s) _ fun H3 s3 => h2 H3 (Stb.up (Stb.up g s) s3) _ fun H4 s4 => by
    subst e
    have s24 := s3.trans s4
    refine ⟨a, vs, rfl, .inl (.inl (s24 _ _ e1)), fun p hp => ?_⟩
    have sn := same_new (o := .lst (cutV vs lo hi)) hp
    exact q p _ _ ((s.trans s24).free hp) ((s.trans s24).trans sn) (by simp [upd]) (((t.up s24).cut lo hi).up sn)
/-- d[k], d sums -/
theorem ed_sumIx [Stb G] {l : List Rw} {k : Str} (hn : (l.map (·.1)).Nodup) (h : EvR G td σ fun v H => ∃ d, v = .ref d ∧ H d = some (.dK (kvL l))) (hk : EvD G tk σ (.text k)) (hm : k ∈ l.map (·.1)) : EvD G (tDGet td tk) σ (.num (cnt l k)) := fun H1 g Q q =>
  h H1 g _ fun v H2 s ⟨d, e, ed⟩ => hk H2 (Stb.up g s) _ fun kv H3 s3 t3 => by
    subst e
    cases t3
    refine ⟨d, .int (cnt l k), rfl, ?_, q _ H3 (s.trans s3) (.num _)⟩
    have z := DGet.k (k := Sum.inr k) (s3 _ _ ed)
    rw [valV_kvL hn, if_pos hm] at z
    exact z
theorem er_sums {ta : TE} {S : List Sh} (h : EvD G ta σ (stD S)) (fw : Few S) : EvR G (tCall spSums [] E0 (tCons ta tNil)) σ fun v H => ∃ d, v = .ref d ∧ H d = some (.dK (kvL (sumsP (flat S)))) := fun H1 g Q q =>
  h H1 g _ fun v H2 s t => ⟨v, S, rfl, t, fw, fun d H3 hn s3 e => q _ H3 (s.trans s3) ⟨d, rfl, e⟩⟩
end
abbrev nEnd : List Str := ["_law_here", "_law_sort", "_law_at", "_law_size", "_law_found", "_law_plank", "_law_row"]
theorem sc_End : FnScope nEnd ["_law_here", "_law_sort", "_law_at"] (defScope (K81.top 28)) := ⟨rfl, rfl, rfl, by decide +kernel, rfl, by decide +kernel, by decide +kernel⟩
def spEnd : Sp := fun vs H Q _ => ∃ (v : V) (S : List Sh) (k : Str) (a : Nat), vs = [v, .str k, .int (a : Nat)] ∧ Tp H v (stD S) ∧ Few S ∧ OkS S ∧ a < S.length ∧ k ∈ (flat S).map (·.1) ∧ ∀ u H', Same H H' → Tp H' u (stD (endSt S k a)) → Q u H'
section
variable {P : Program} {w : World} {K : PySem.W.Frag} {mg : Str → Option Value} {base : Heap}
theorem cal_End (B : Bi mg) (D : DfE K mg "_law_at_the_end" 28) (CLPutTogether : Cal P w K mg base "_law_put_together" 1 ["_law_rows"] spTog) (CLSums : Cal P w K mg base "_law_sums" 1 ["_law_here"] spSums) : Cal P w K mg base "_law_at_the_end" 2 ["_law_here", "_law_sort", "_law_at"] spEnd := by
  obtain ⟨f, fd, D⟩ := D
  have nd := sc_End.nd
  refine D.cal (D.F.ok sc_End (fun vs H Q E h => ?_) fun cdv A outer s H vs Q E hr h => ⟨_, PSs.nox
    ((pss_cons (ps_set (i := 3) nd rfl (by first | exact Or.inl rfl | exact Or.inr rfl) (pe_dget (hu_of hr) (pe_callC CLSums (hr.mono (by decide)) (pa_cons (pv 0) pa_nil)) (pv 1) (fun _ _ => rfl)))
      (pss_cons (ps_setLc (i := 4) (wi := (iTup K _)) (g := (gName 5)) (tt := tYes) (te := (tCall _ [] E0 (tCons (tLc (iTup K _) (gName 6) (tTest (tOp _ (tOp (rIxT K) _ _) _)) _ _) tNil))) rfl nd rfl rfl (sw_true rfl rfl rfl (by kernel_rfl)) (pi_tup (pv 0)) (blkOk_by (own := [("_law_plank", 5)]) (by kernel_rfl)) (fun _ _ _ _ _ => (pg_name (i := 5) nd rfl (by first | exact Or.inl rfl | exact Or.inr rfl))) (fun _ _ _ _ _ => pts_nil) (fun _ _ _ _ _ => (pe_callC CLPutTogether (hr.mono (by decide)) (pa_cons (pe_lc (wi := (iTup K _)) (g := (gName 6)) (tt := (tTest (tOp _ (tOp (rIxT K) _ _) _))) (te := _) rfl nd (pi_tup (pv 5)) (blkOk_by (own := [("_law_row", 6)]) (by kernel_rfl)) (fun _ _ _ _ _ => (pg_name (i := 6) nd rfl (by first | exact Or.inl rfl | exact Or.inr rfl))) (fun _ _ _ _ _ => (pts_one (pt_cmpR op_ne (pe_ix ix_tup (pv 6) pe_int (fun _ _ => rfl)) (pv 1) (nomark _)))) (fun _ _ _ _ _ => (pv 6))) pa_nil))))
      (pss_one (ps_ret (pe_callTy call_tuple_of rfl B.tuple boot_tuple (pa_cons (pe_op op_cat (pe_op op_cat (pe_slice sl_list (pv 4) po_none (po_some (pv 2))) (pe_lst (pa_cons (pe_op op_catA (pe_ix ix_list (pv 4) (pv 2) (fun _ _ => rfl)) (pe_tup (pa_cons (pe_tup (pa_cons (pv 1) (pa_cons (pv 3) pa_nil))) pa_nil))) pa_nil))) (pe_slice sl_list (pv 4) (po_some (pe_op op_add (pv 2) pe_int)) po_none)) pa_nil))))))), ?_⟩)
    (fun kV doc pm an cdv ct us hl => match us, hl with | [_, _, _], _ => rfl)
  · obtain ⟨v, S, k, a, rfl, _⟩ := h; rfl
  · obtain ⟨v, S, k, a, rfl, tv, fw, ok, ha, hk, hq⟩ := h
    have so := sumsP_ok (flat S)
    refine q_asgD (G := fun H' => Same H H') (d := .num (cnt (flat S) k)) (EvD.to (ed_sumIx so.1 (er_sums (ed_var rfl fun H' s => tv.up s) fw) (ed_var rfl fun _ _ => .txt k) ((so.2.1 k).mpr hk)) (by rw [so.2.2])) (Same.refl H) fun sv H1 s1 ts => ?_
    have e1 := ts.num_inv
    subst e1
    refine q_asgL (G := fun H' => Same H1 H') (ds := (without S k).map shD) (EvL.to (el_lcM (xs := S) (mk := shD) (fun s => shD (putTog (s.filter fun p => !decide (p.1 = k)))) (ei_tup (ed_var rfl fun H' s => (tv.up s1).up s)).ei (by have := fw.1; omega) ?_) ?_) (Same.refl H1) fun l us H2 hn s2 el tl => ?_
    · intro H2 s2 sh hsh x Hx sx tx
      have hsl := few_sh fw sh hsh
      refine eg_name ⟨Same.refl _, rfl, et_yes, ed_tog (rows := sh.filter fun p => !decide (p.1 = k)) (es_of (el_lc (xs := sh) (mk := bkD) (fun p => !decide (p.1 = k)) bkD (ei_tup (ed_var rfl fun H' s => tx.up s)).ei (by omega) ?_)) ?_ fun p hp => ok sh hsh p (List.mem_filter.mp hp).1⟩
      · intro H3 s3 p hp y Hy sy ty
        exact eg_name ⟨Same.refl _, rfl, et_cmp (ed_ixc (d := .text p.1) (ed_var rfl fun H' s => ty.up s) (atI_nat (j := 0) rfl)) (ed_var rfl fun _ _ => .txt k) rb_neS, fun _ => ed_var rfl fun H' s => ty.up s⟩
      · have := List.length_filter_le (fun p : Rw => !decide (p.1 = k)) sh
        omega
    · unfold without
      rw [List.map_map]
      rfl
    have hwl : (without S k).length = S.length := by unfold without; rw [List.length_map]
    have hg : (without S k)[a]? = some ((without S k)[a]'(by omega)) := List.getElem?_eq_getElem _
    have hes : ∀ {H3 : Hp}, Same H2 H3 → EvS (fun H' => Same H3 H') (tVar 4) [some v, some (.str k), some (.int (a : Nat)), some (.int (cnt (flat S) k)), some (.ref l), none, none] ((without S k).map shD) := fun s3 => es_var rfl fun H' s => ⟨us, s _ _ (s3 _ _ el), (tl.up s3).up s⟩
    have h100 := fw.1
    refine q_retD (G := fun H' => Same H2 H') (d := stD (endSt S k a)) (EvD.to (ed_tupL (el_cat (es_of (el_cat (es_of (el_slL (hes (Same.refl _)) eo_none (eo_some (ed_var rfl fun _ _ => .num _)))) (es_of (el_lst (ds := [shD ((without S k)[a]?.getD [] ++ [(k, cnt (flat S) k)])]) (ea_cons (EvD.to (ed_op (ed_ixL (d := shD ((without S k)[a]'(by omega))) (hes (Same.refl _)) (ed_var rfl fun _ _ => .num _) (atI_nat (by rw [List.getElem?_map, hg]; rfl))) (ed_tup (ea_cons (d := bkD (k, cnt (flat S) k)) (ed_tup (ea_cons (ed_var rfl fun _ _ => .txt k) (ea_cons (ed_var rfl fun _ _ => .num _) ea_nil)) (show 2 ≤ 100000 by decide)) ea_nil) (show 1 ≤ 100000 by decide)) (rd_cat ?_)) ?_) ea_nil) (show 1 ≤ 100000 by decide))) ?_)) (es_of (el_slL (hes (Same.refl _)) (eo_some (ed_op (ed_var rfl fun _ _ => .num _) ed_int rd_I0)) eo_none)) ?_)) ?_) (Same.refl H2) fun u H3 s3 t3 => hq u H3 ((s1.trans s2).trans s3) t3
    · rw [List.length_map]
      have hm : (without S k)[a]'(by omega) ∈ without S k := List.getElem_mem _
      obtain ⟨sh, hsh, e⟩ := List.mem_map.mp (show _ ∈ S.map _ from hm)
      have h1 := few_sh fw sh hsh
      have h2 := putTog_len (sh.filter fun p => !decide (p.1 = k))
      have h3 := List.length_filter_le (fun p : Rw => !decide (p.1 = k)) sh
      have e2 : ((without S k)[a]'(by omega)).length = (putTog (sh.filter fun p => !decide (p.1 = k))).length := congrArg List.length e.symm
      show ((without S k)[a]'(by omega)).length + 1 ≤ 100000
      omega
    · rw [hg]
      show NestedKey.tup (_ ++ _) = _
      unfold shD
      rw [Option.getD_some, List.map_append]
      rfl
    · rw [cut_to, List.length_take, List.length_map]
      show _ + 1 ≤ _
      omega
    · rw [cut_to, show ((a : Int) + 1) = ((a + 1 : Nat) : Int) by omega, cut_from]
      rw [List.length_append, List.length_take, List.length_drop, List.length_map]
      show _ + 1 + _ ≤ _
      omega
    · rw [cut_to, show ((a : Int) + 1) = ((a + 1 : Nat) : Int) by omega, cut_from]
      unfold stD endSt
      rw [List.map_append, List.map_append, List.map_take, List.map_drop]
      rfl
end
end K8
end

section
set_option Elab.async false
set_option linter.all false
set_option maxRecDepth 100000
set_option maxHeartbeats 4000000
/-! K81: _law_ways. -/
namespace K8
open PySem PySem.Spec PyProof.Rows L2
theorem sortOk_bk {l : List Rw} (h : l.length ≤ 100000) : SortOk (l.map bkD) := by
  refine ⟨fun d hd d' hd' => ?_, .inl fun d hd => ?_, fun d hd => ?_, by rw [List.length_map, sizeLine_eq]; omega⟩
  · obtain ⟨z, hz, rfl⟩ := List.mem_map.mp hd
    obtain ⟨z', hz', rfl⟩ := List.mem_map.mp hd'
    obtain ⟨e, _, rfl⟩ := List.mem_map.mp hz
    obtain ⟨e', _, rfl⟩ := List.mem_map.mp hz'
    rfl
  · obtain ⟨e, _, rfl⟩ := List.mem_map.mp hd
    exact ⟨_, rfl⟩
  · obtain ⟨e, _, rfl⟩ := List.mem_map.mp hd
    exact Nat.le_trans (depth_bk e) (by decide)
def srtR (l : List Rw) : List Rw := l.mergeSort (fun a b => PySem.W.dataLe false (fun e : Rw => (bkD e).data) a b)
theorem srtR_perm (l : List Rw) : (srtR l).Perm l := List.mergeSort_perm _ _
theorem srtR_map (l : List Rw) : srtD (l.map bkD) = (srtR l).map bkD := (PySem.W.sort_maps bkD fun _ _ _ _ => rfl).symm
theorem kv_pairs {H : Hp} (l : List Rw) : Paired (PairD H) ((kvL l).map fun kv => (kV kv.1, kv.2)) (l.map bkD) := by
  induction l with
  | nil => exact .nil
  | cons p l ih => exact .cons ⟨.text p.1, .num p.2, rfl, .txt _, .num _⟩ ih
section
variable {G : Hp → Prop} {σ : L2.St} {te : TE} {K : PySem.W.Frag} {P : Program} {w : World}
/-- sorted(sums(here).items()) -/
theorem el_items {td : TE} {l : List Rw} (h : EvR G td σ fun v H => ∃ d, v = .ref d ∧ H d = some (.dK (kvL l))) (hl : l.length ≤ 100000) : EvL G (tCB (rSortI8 P w) (tCons (tItems P w td) tNil)) σ ((srtR l).map bkD) := fun H1 g Q q =>
  h H1 g _ fun v H2 s ⟨d, e, ed⟩ => by
    subst e
    refine ⟨d, rfl, .inr ⟨_, ed⟩, fun p hp => ?_⟩
    have sn := same_new (o := L2.DX.itemsO p d) hp
    refine ⟨p, d, _, l.map bkD, rfl, by simp [upd], .inr ⟨_, sn _ _ ed, rfl⟩, kv_pairs l, sortOk_bk hl, fun H3 q' ys s3 hn e3 t3 => ?_⟩
    rw [srtR_map] at t3
    exact q q' ys H3 (s.free (sn.free hn)) ((s.trans sn).trans s3) e3 t3
theorem el_all {S : List Sh} (h : EvD G te σ (stD S)) (fw : Few S) : EvL G (tCall spAll [] E0 (tCons te tNil)) σ ((allSpots S).map spotD) := fun H1 g Q q =>
  h H1 g _ fun v H2 s t => ⟨v, S, rfl, t, fw, fun p us H3 hn s3 e t3 => q p us H3 (s.free hn) (s.trans s3) e t3⟩
theorem el_spots [Stb G] {tk : TE} {S : List Sh} {k : Str} (h : EvD G te σ (stD S)) (hk : EvD G tk σ (.text k)) (fw : Few S) : EvL G (tCall spSpots [] E0 (tCons te (tCons tk tNil))) σ ((spotsOf S k).map spotD) := fun H1 g Q q =>
  h H1 g _ fun v H2 s t => hk H2 (Stb.up g s) _ fun u H3 s3 t3 => by
    cases t3
    exact ⟨v, S, k, rfl, t.up s3, fw, fun p us H4 hn s4 e t4 => q p us H4 ((s.trans s3).free hn) ((s.trans s3).trans s4) e t4⟩
end
inductive Way where
  | move (src dst : Sp2) (n : Int)
  | bring (k : Str) (a : Nat)
def wayD : Way → Dt
  | .move s d n => .tup [.text (Str.ofString "move"), spotD s, spotD d, .num n]
  | .bring k a => .tup [.text (Str.ofString "bring"), .text k, .num (a : Nat)]
/-- the row at a spot -/
def rowAt (S : List Sh) (p : Sp2) : Option Rw := S[p.1]?.bind fun s => s[p.2]?
def OkWay (S : List Sh) : Way → Prop
  | .move s d n => s ≠ d ∧ ∃ k m, rowAt S s = some (k, n) ∧ rowAt S d = some (k, m)
  | .bring k a => k ∈ (flat S).map (·.1) ∧ a < S.length
theorem spotD_inj {p q : Sp2} (h : spotD p = spotD q) : p = q := by
  obtain ⟨a, b⟩ := p
  obtain ⟨c, d⟩ := q
  have h1 := NestedKey.tup.inj h
  injection h1 with h2 h3
  injection h3 with h4 h5
  have e1 : a = c := Int.ofNat.inj (NestedKey.num.inj h2)
  have e2 : b = d := Int.ofNat.inj (NestedKey.num.inj h4)
  rw [e1, e2]
theorem all_mem {S : List Sh} {p : Sp2} (h : p ∈ allSpots S) : ∃ s q, S[p.1]? = some s ∧ s[p.2]? = some q ∧ s ∈ S := by
  unfold allSpots at h
  obtain ⟨x, hx, hp⟩ := List.mem_flatMap.mp h
  obtain ⟨h1, h2⟩ := zipIdx_mem_sh hx
  unfold allAt at hp
  obtain ⟨r, hr, rfl⟩ := List.mem_map.mp hp
  have hr' := List.mem_range.mp hr
  exact ⟨x.1, x.1[r], h2, List.getElem?_eq_getElem hr', h1⟩
theorem spots_mem {S : List Sh} {k : Str} {p : Sp2} (h : p ∈ spotsOf S k) : ∃ n, rowAt S p = some (k, n) := by
  unfold spotsOf at h
  obtain ⟨x, hx, hp⟩ := List.mem_flatMap.mp h
  obtain ⟨h1, h2⟩ := zipIdx_mem_sh hx
  unfold spotsAt at hp
  obtain ⟨r, hr, rfl⟩ := List.mem_map.mp hp
  obtain ⟨hr1, hr2⟩ := List.mem_filter.mp hr
  unfold rowIs at hr2
  unfold rowAt
  rw [h2]
  cases e : x.1[r]? with
  | none => rw [e] at hr2; cases hr2
  | some q =>
    rw [e] at hr2
    have : q.1 = k := of_decide_eq_true hr2
    refine ⟨q.2, ?_⟩
    show x.1[r]? = _
    rw [e, ← this]
theorem all_len {S : List Sh} : (allSpots S).length ≤ (flat S).length := by
  have := spots_len allAt allAt_len S.zipIdx
  rw [zip_flat] at this
  exact this
theorem spotsOf_len {S : List Sh} {k : Str} : (spotsOf S k).length ≤ (flat S).length := by
  have := spots_len (spotsAt k) (spotsAt_len k) S.zipIdx
  rw [zip_flat] at this
  exact this
abbrev nWaysL : List Str := ["_law_here", "_law_loan", "_law_found", "_law_at", "_law_row", "_law_sort", "_law_size", "_law_to"]
theorem sc_WaysL : FnScope nWaysL ["_law_here", "_law_loan"] (defScope (K81.top 29)) := ⟨rfl, rfl, rfl, by decide +kernel, rfl, by decide +kernel, by decide +kernel⟩
def spWaysL : Sp := fun vs H Q _ => ∃ (v : V) (S : List Sh) (loan : Int), vs = [v, .int loan] ∧ Tp H v (stD S) ∧ S.length ≤ 10 ∧ (flat S).length ≤ 200 ∧ ∀ p us H' (ws : List Way), H p = none → Same H H' → H' p = some (.lst us) → TpA H' us (ws.map wayD) → (∀ x ∈ ws, OkWay S x) → ws.length ≤ 50000 → Q (.ref p) H'
section
variable {P : Program} {w : World} {K : PySem.W.Frag} {mg : Str → Option Value} {base : Heap}
theorem cal_WaysL (B : Bi mg) (D : DfE K mg "_law_ways" 29) (CLAllSpots : Cal P w K mg base "_law_all_spots" 1 ["_law_here"] spAll) (CLSpots : Cal P w K mg base "_law_spots" 1 ["_law_here", "_law_sort"] spSpots) (CLSums : Cal P w K mg base "_law_sums" 1 ["_law_here"] spSums) : Cal P w K mg base "_law_ways" 2 ["_law_here", "_law_loan"] spWaysL := by
  obtain ⟨f, fd, D⟩ := D
  have nd := sc_WaysL.nd
  refine D.cal (D.F.ok sc_WaysL (fun vs H Q E h => ?_) fun cdv A outer s H vs Q E hr h => ⟨_, PSs.nox
    ((pss_cons (ps_set (i := 2) nd rfl (by first | exact Or.inl rfl | exact Or.inr rfl) (pe_lst pa_nil))
      (pss_cons (ps_for PassesOwn.never rfl (pi_list (pe_callC CLAllSpots (hr.mono (by decide)) (pa_cons (pv 0) pa_nil))) (pg_tup rfl (pgs_cons (pg_name (i := 3) nd rfl (by first | exact Or.inl rfl | exact Or.inr rfl)) (pgs_cons (pg_name (i := 4) nd rfl (by first | exact Or.inl rfl | exact Or.inr rfl)) pgs_nil))) (pss_cons (ps_asg (pe_ix ix_tup (pe_ix ix_tup (pv 0) (pv 3) (fun _ _ => rfl)) (pv 4) (fun _ _ => rfl)) (pg_tup rfl (pgs_cons (pg_name (i := 5) nd rfl (by first | exact Or.inl rfl | exact Or.inr rfl)) (pgs_cons (pg_name (i := 6) nd rfl (by first | exact Or.inl rfl | exact Or.inr rfl)) pgs_nil))))
      (pss_one (ps_set (i := 2) nd rfl (by first | exact Or.inl rfl | exact Or.inr rfl) (pe_op op_cat (pv 2) (pe_lc (wi := (iList K _)) (g := (gName 7)) (tt := (tTest (tOp (rNeD K) _ _))) (te := _) rfl nd (pi_list (pe_callC CLSpots (hr.mono (by decide)) (pa_cons (pv 0) (pa_cons (pv 5) pa_nil)))) (blkOk_by (own := [("_law_to", 7)]) (by kernel_rfl)) (fun _ _ _ _ _ => (pg_name (i := 7) nd rfl (by first | exact Or.inl rfl | exact Or.inr rfl))) (fun _ _ _ _ _ => (pts_one (pt_cmpR (op_neD hr.units) (pv 7) (pe_tup (pa_cons (pv 3) (pa_cons (pv 4) pa_nil))) (nomark _)))) (fun _ _ _ _ _ => (pe_tup (pa_cons pe_str (pa_cons (pe_tup (pa_cons (pv 3) (pa_cons (pv 4) pa_nil))) (pa_cons (pv 7) (pa_cons (pv 6) pa_nil))))))))))))
      (pss_cons (ps_for PassesOwn.never rfl (pi_list (pe_callB (cr_sortI8 rfl hr.units) rfl B.sorted boot_sorted (pa_cons (pe_items (pe_callC CLSums (hr.mono (by decide)) (pa_cons (pv 0) pa_nil))) pa_nil))) (pg_tup rfl (pgs_cons (pg_name (i := 5) nd rfl (by first | exact Or.inl rfl | exact Or.inr rfl)) (pgs_cons (pg_name (i := 6) nd rfl (by first | exact Or.inl rfl | exact Or.inr rfl)) pgs_nil))) (pss_one (ps_if (pt_cmpR op_le (pv 6) (pv 1) (nomark _)) (pss_one (ps_set (i := 2) nd rfl (by first | exact Or.inl rfl | exact Or.inr rfl) (pe_op op_cat (pv 2) (pe_lc (wi := (iRng1 (tCons (tCB (rLenX K) _) tNil))) (g := (gName 3)) (tt := tYes) (te := _) rfl nd (pi_range1 rfl B.range (pa_cons (pe_callB call_len_seq rfl B.len PySem.boot_len (pa_cons (pv 0) pa_nil)) pa_nil)) (blkOk_by (own := [("_law_at", 3)]) (by kernel_rfl)) (fun _ _ _ _ _ => (pg_name (i := 3) nd rfl (by first | exact Or.inl rfl | exact Or.inr rfl))) (fun _ _ _ _ _ => pts_nil) (fun _ _ _ _ _ => (pe_tup (pa_cons pe_str (pa_cons (pv 5) (pa_cons (pv 3) pa_nil))))))))) pss_nil)))
      (pss_one (ps_ret (pv 2))))))), ?_⟩)
    (fun kV doc pm an cdv ct us hl => match us, hl with | [_, _], _ => rfl)
  · obtain ⟨v, S, loan, rfl, _⟩ := h; rfl
  · obtain ⟨v, S, loan, rfl, tv, l10, l200, hq⟩ := h
    have fw : Few S := ⟨by omega, Nat.le_trans l200 (by decide)⟩
    refine q_asgL (G := fun H' => Same H H') (el_lst ea_nil (by decide)) (Same.refl H) fun l ls H1 hl0 s1 el tl => ?_
    cases tl
    refine q_forI (G := fun H' => Same H1 H') (xs := allSpots S) (mk := spotD) (ei_list (el_all (ed_var rfl fun H' s => (tv.up s1).up s) fw)) (Same.refl H1) (fun H2 i τ H' => ∃ (l : Addr) (fs : List V) (ws : List Way) (o3 o4 o5 o6 o7 : Option V), τ = [some v, some (.int loan), some (.ref l), o3, o4, o5, o6, o7] ∧ Same H2 H' ∧ Same H H' ∧ H l = none ∧ H' l = some (.lst fs) ∧ TpA H' fs (ws.map wayD) ∧ (∀ x ∈ ws, OkWay S x) ∧ ws.length ≤ i * 200) ?_ ?_ ?_ ?_
    · exact fun H2 s2 => ⟨l, [], [], none, none, none, none, none, rfl, Same.refl _, s1.trans s2, hl0, s2 _ _ el, .nil, fun x hx => (nomatch hx), Nat.zero_le _⟩
    · rintro H2 s2 i τ H' ⟨_, _, _, _, _, _, _, _, _, t, _⟩; exact t
    · rintro H2 s2 i p τ H' H'' x hp hpm ⟨l, fs, ws, o3, o4, o5, o6, o7, rfl, t, sH, hl, e, tf, hok, hwl⟩ s3 tx
      have hi : i < (allSpots S).length := (List.getElem?_eq_some_iff.mp hp).1
      have hal := all_len (S := S)
      obtain ⟨sh, q, hs1, hs2, hsm⟩ := all_mem hpm
      obtain ⟨k, n⟩ := q
      refine eg_pair tx fun ua ur ta tr => ?_
      have sH2 := sH.trans s3
      refine ed_ix (G := fun H3 => Same H'' H3) (K := K) (d := bkD (k, n)) (ed_ix (ed_var rfl fun H3 s => (tv.up sH2).up s) (ed_var rfl fun H3 s => ta.up s) (atI_nat (by rw [List.getElem?_map, hs1]; rfl))) (ed_var rfl fun H3 s => tr.up s) (atI_sh hs2) H'' (Same.refl _) _ fun z H3 s4 tz => ?_
      refine eg_pair tz (P := fun τ Hx => _) (fun uk un tk tn => ?_) _ fun τ2 Hx q => q
      have e1 := tk.txt_inv
      have e2 := tn.num_inv
      subst e1
      subst e2
      have sH3 := sH2.trans s4
      have h200 : i * 200 ≤ 40000 := by omega
      have hsl := spotsOf_len (S := S) (k := k)
      have hrow : rowAt S p = some (k, n) := by unfold rowAt; rw [hs1]; exact hs2
      have hfl := List.length_filter_le (fun t : Sp2 => !decide (t = p)) (spotsOf S k)
      refine q_asgL (G := fun H4 => Same H3 H4) (ds := (ws ++ ((spotsOf S k).filter fun t => !decide (t = p)).map fun t => Way.move p t n).map wayD) (EvL.to (el_cat (es_var rfl fun H4 s => ⟨fs, s _ _ (s4 _ _ (s3 _ _ e)), ((tf.up s3).up s4).up s⟩) (es_of (el_lc (xs := spotsOf S k) (mk := spotD) (fun t => !decide (t = p)) (fun t => wayD (.move p t n)) (ei_list (el_spots (ed_var rfl fun H4 s => (tv.up sH3).up s) (ed_var rfl fun _ _ => .txt k) fw)) (by omega) ?_)) ?_) ?_) (Same.refl H3) fun l2 us H4 hn s5 e5 t5 => ?_
      · intro H4 s5 t htm y Hy sy ty
        have sp : ∀ {H5 : Hp}, Same H5 H5 → Same Hy H5 → EvD (fun H' => Same H5 H') (tTup (tCons (tVar 3) (tCons (tVar 4) tNil))) [some v, some (.int loan), some (.ref l), some ua, some ur, some (.str k), some (.int n), some y] (spotD p) := fun _ s5y => ed_tup (ea_cons (ed_var rfl fun H' s => ta.up ((s4.trans (s5.trans sy)).trans (s5y.trans s))) (ea_cons (ed_var rfl fun H' s => tr.up ((s4.trans (s5.trans sy)).trans (s5y.trans s))) ea_nil)) (show 2 ≤ 100000 by decide)
        refine eg_name ⟨Same.refl _, rfl, EvT.to (et_cmp (ed_var rfl fun H' s => ty.up s) (sp (Same.refl _) (Same.refl _)) (rb_neQ (tx_tup ?_) (tx_tup ?_) (Nat.le_of_ble_eq_true rfl) (Nat.le_of_ble_eq_true rfl))) ?_, fun _ => ed_tup (ea_cons ed_str (ea_cons (sp (Same.refl _) (Same.refl _)) (ea_cons (ed_var rfl fun H' s => ty.up s) (ea_cons (ed_var rfl fun _ _ => .num n) ea_nil)))) (show 4 ≤ 100000 by decide)⟩
        · intro d hd
          rcases List.mem_cons.mp hd with rfl | hd
          · exact tx_num
          · rw [List.mem_singleton.mp hd]; exact tx_num
        · intro d hd
          rcases List.mem_cons.mp hd with rfl | hd
          · exact tx_num
          · rw [List.mem_singleton.mp hd]; exact tx_num
        · congr 1
          rw [decide_eq_decide]
          exact ⟨spotD_inj, fun z => by rw [z]⟩
      · rw [List.length_map, List.length_map]; omega
      · rw [List.map_append, List.map_map]; rfl
      · refine ⟨l2, us, ws ++ ((spotsOf S k).filter fun t => !decide (t = p)).map fun t => Way.move p t n, _, _, _, _, _, rfl, ((t.trans s3).trans s4).trans s5, sH3.trans s5, sH3.free hn, e5, t5, fun x hx => ?_, ?_⟩
        · rcases List.mem_append.mp hx with hx | hx
          · exact hok x hx
          · obtain ⟨t, ht, rfl⟩ := List.mem_map.mp hx
            obtain ⟨ht1, ht2⟩ := List.mem_filter.mp ht
            obtain ⟨m, hm⟩ := spots_mem ht1
            exact ⟨fun z => by rw [z] at ht2; simp at ht2, k, m, hrow, hm⟩
        · rw [List.length_append, List.length_map]; omega
    · rintro H2 s2 τ H3 ⟨l, fs, ws, o3, o4, o5, o6, o7, rfl, t, sH3, hl, e, tf, hok, hwl⟩
      have hal := all_len (S := S)
      have so := sumsP_ok (flat S)
      have sl := sumsP_len (flat S)
      have hpl := (srtR_perm (sumsP (flat S))).length_eq
      refine q_nx ?_
      refine q_forI (G := fun H' => Same H3 H') (xs := srtR (sumsP (flat S))) (mk := bkD) (ei_list (el_items (er_sums (ed_var rfl fun H' s => (tv.up sH3).up s) fw) (by omega))) (Same.refl H3) (fun H4 i τ H' => ∃ (l : Addr) (fs : List V) (ws : List Way) (o3 o4 o5 o6 o7 : Option V), τ = [some v, some (.int loan), some (.ref l), o3, o4, o5, o6, o7] ∧ Same H4 H' ∧ Same H H' ∧ H l = none ∧ H' l = some (.lst fs) ∧ TpA H' fs (ws.map wayD) ∧ (∀ x ∈ ws, OkWay S x) ∧ ws.length ≤ 40000 + i * 10) ?_ ?_ ?_ ?_
      · exact fun H4 s4 => ⟨l, fs, ws, o3, o4, o5, o6, o7, rfl, Same.refl _, sH3.trans s4, hl, s4 _ _ e, tf.up s4, hok, by omega⟩
      · rintro H4 s4 i τ H' ⟨_, _, _, _, _, _, _, _, _, t, _⟩; exact t
      · rintro H4 s4 i p τ H5 H6 x hp hpm ⟨l, fs, ws, o3, o4, o5, o6, o7, rfl, t, sH5, hl, e, tf, hok, hwl⟩ s56 tx
        obtain ⟨k, n⟩ := p
        have hi : i < (srtR (sumsP (flat S))).length := (List.getElem?_eq_some_iff.mp hp).1
        have hkm : k ∈ (flat S).map (·.1) := (so.2.1 k).mp (List.mem_map.mpr ⟨(k, n), (srtR_perm _).mem_iff.mp hpm, rfl⟩)
        refine eg_pair tx fun uk un tk tn => ?_
        have e1 := tk.txt_inv
        have e2 := tn.num_inv
        subst e1
        subst e2
        have sH6 := sH5.trans s56
        refine q_if (G := fun H' => Same H6 H') (b := decide (n ≤ loan)) (et_cmp (ed_var rfl fun _ _ => .num n) (ed_var rfl fun _ _ => .num loan) rb_I0) (Same.refl H6) (fun hb H7 s7 => ?_) fun hb H7 s7 => ?_
        · have sH7 := sH6.trans s7
          refine q_asgL (G := fun H8 => Same H7 H8) (ds := (ws ++ (List.range S.length).map fun a => Way.bring k a).map wayD) (EvL.to (el_cat (es_var rfl fun H8 s => ⟨fs, s _ _ (s7 _ _ (s56 _ _ e)), ((tf.up s56).up s7).up s⟩) (es_of (el_lcM (xs := List.range S.length) (mk := fun i => NestedKey.num (i : Nat)) (fun a => wayD (.bring k a)) (ei_range1 (EvD.to (ed_len (ed_var rfl fun H8 s => (tv.up sH7).up s)) (by rw [List.length_map])) (by omega)).ei (by rw [List.length_range]; omega) ?_)) ?_) ?_) (Same.refl H7) fun l2 us H8 hn s8 e8 t8 => ?_
          · intro H8 s8 a ha y Hy sy ty
            exact eg_name ⟨Same.refl _, rfl, et_yes, ed_tup (ea_cons ed_str (ea_cons (ed_var rfl fun _ _ => .txt k) (ea_cons (ed_var rfl fun H' s => ty.up s) ea_nil))) (show 3 ≤ 100000 by decide)⟩
          · rw [List.length_map, List.length_map, List.length_range]; omega
          · rw [List.map_append, List.map_map]; rfl
          · refine ⟨l2, us, ws ++ (List.range S.length).map fun a => Way.bring k a, _, _, _, _, _, rfl, ((t.trans s56).trans s7).trans s8, sH7.trans s8, sH7.free hn, e8, t8, fun x hx => ?_, ?_⟩
            · rcases List.mem_append.mp hx with hx | hx
              · exact hok x hx
              · obtain ⟨a, ha, rfl⟩ := List.mem_map.mp hx
                exact ⟨hkm, List.mem_range.mp ha⟩
            · rw [List.length_append, List.length_map, List.length_range]; omega
        · exact ⟨l, fs, ws, _, _, _, _, _, rfl, (t.trans s56).trans s7, sH6.trans s7, hl, s7 _ _ (s56 _ _ e), (tf.up s56).up s7, hok, by omega⟩
      · rintro H4 s4 τ H' ⟨l, fs, ws, o3, o4, o5, o6, o7, rfl, t, sH', hl, e, tf, hok, hwl⟩
        exact ⟨_, rfl, hq l fs H' ws hl sH' e tf hok (by omega)⟩
end
end K8
end

section
set_option Elab.async false
set_option linter.all false
set_option maxRecDepth 100000
set_option maxHeartbeats 4000000
/-! K81: _law_behind. -/
namespace K8
open PySem PySem.Spec PyProof.Rows L2
def mvM (s d : Sp2) (n : Int) (p : Sp2) : Int := if p = s then 0 - n else if p = d then n else 0
def behindSt (S : List Sh) : Way → List Sh
  | .move s d n => withSt S (mvM s d n)
  | .bring k a => endSt S k a
def GoWay (S : List Sh) : Way → Prop
  | .move s d _ => s ≠ d
  | .bring k a => k ∈ (flat S).map (·.1) ∧ a < S.length
theorem ne_mb : decide ((Str.ofString "move" : Str) = Str.ofString "bring") = false := by decide +kernel
abbrev nBehind : List Str := ["_law_here", "_law_way"]
theorem sc_Behind : FnScope nBehind ["_law_here", "_law_way"] (defScope (K81.top 30)) := ⟨rfl, rfl, rfl, by decide +kernel, rfl, by decide +kernel, by decide +kernel⟩
def spBehind : Sp := fun vs H Q _ => ∃ (v wv : V) (S : List Sh) (y : Way), vs = [v, wv] ∧ Tp H v (stD S) ∧ Few S ∧ OkS S ∧ Tp H wv (wayD y) ∧ GoWay S y ∧ ∀ u H', Same H H' → Tp H' u (stD (behindSt S y)) → Q u H'
section
variable {P : Program} {w : World} {K : PySem.W.Frag} {mg : Str → Option Value} {base : Heap}
theorem cal_Behind (B : Bi mg) (D : DfE K mg "_law_behind" 30) (CLWith : Cal P w K mg base "_law_with" 2 ["_law_here", "_law_more"] (spWith P w)) (CLAtTheEnd : Cal P w K mg base "_law_at_the_end" 2 ["_law_here", "_law_sort", "_law_at"] spEnd) : Cal P w K mg base "_law_behind" 3 ["_law_here", "_law_way"] spBehind := by
  obtain ⟨f, fd, D⟩ := D
  have nd := sc_Behind.nd
  refine D.cal (D.F.ok sc_Behind (fun vs H Q E h => ?_) fun cdv A outer s H vs Q E hr h => ⟨_, PSs.nox
    ((pss_cons (ps_if (pt_cmpR op_eq (pe_ix ix_tup (pv 1) pe_int (fun _ _ => rfl)) pe_str (nomark _)) (pss_one (ps_ret (pe_callC CLAtTheEnd (hr.mono (by decide)) (pa_cons (pv 0) (pa_cons (pe_ix ix_tup (pv 1) pe_int (fun _ _ => rfl)) (pa_cons (pe_ix ix_tup (pv 1) pe_int (fun _ _ => rfl)) pa_nil)))))) pss_nil)
      (pss_one (ps_ret (pe_callC CLWith (hr.mono (by decide)) (pa_cons (pv 0) (pa_cons (pe_dispN hr.units (pps_cons (pe_ix ix_tup (pv 1) pe_int (fun _ _ => rfl)) (pe_op op_sub pe_int (pe_ix ix_tup (pv 1) pe_int (fun _ _ => rfl))) (pps_cons (pe_ix ix_tup (pv 1) pe_int (fun _ _ => rfl)) (pe_ix ix_tup (pv 1) pe_int (fun _ _ => rfl)) pps_nil)) (by rfl) (by rfl) (fun z => by cases z) (by decide)) pa_nil))))))), ?_⟩)
    (fun kV doc pm an cdv ct us hl => match us, hl with | [_, _], _ => rfl)
  · obtain ⟨v, wv, S, y, rfl, _⟩ := h; rfl
  · obtain ⟨v, wv, S, y, rfl, tv, fw, ok, tw, hg, hq⟩ := h
    cases y with
    | bring k a =>
      refine q_if (G := fun H' => Same H H') (b := true) (EvT.to (et_cmp (ed_ixc (d := .text (Str.ofString "bring")) (ed_var rfl fun H' s => tw.up s) (atI_nat (j := 0) rfl)) ed_str rb_eqS) (decide_eq_true rfl)) (Same.refl H) (fun _ H1 s1 => ?_) (fun z => nomatch z)
      have tw1 := tw.up s1
      refine ⟨v, rfl, ?_⟩
      refine ed_ixc (G := fun H' => Same H1 H') (K := K) (i := 1) (d := .text k) (ed_var (d := wayD (.bring k a)) rfl fun H' s => tw1.up s) (atI_nat (j := 1) rfl) H1 (Same.refl _) _ fun kv H2 s2 tk => ?_
      refine ed_ixc (G := fun H' => Same H2 H') (K := K) (i := 2) (d := .num (a : Nat)) (ed_var (d := wayD (.bring k a)) rfl fun H' s => (tw1.up s2).up s) (atI_nat (j := 2) rfl) H2 (Same.refl _) _ fun av H3 s3 ta => ?_
      cases tk
      cases ta
      have s03 := (s1.trans s2).trans s3
      exact ⟨v, S, k, a, rfl, tv.up s03, fw, ok, hg.2, hg.1, fun u H4 s4 t4 => hq u H4 (s03.trans s4) t4⟩
    | move sp dp n =>
      refine q_if (G := fun H' => Same H H') (b := false) (EvT.to (et_cmp (ed_ixc (d := .text (Str.ofString "move")) (ed_var rfl fun H' s => tw.up s) (atI_nat (j := 0) rfl)) ed_str rb_eqS) ne_mb) (Same.refl H) (fun z => nomatch z) (fun _ H1 s1 => ?_)
      have tw1 := tw.up s1
      refine ⟨v, rfl, ?_⟩
      intro p o hp Dp
      have s2 := same_new (o := dnO p o) hp
      generalize hH2 : upd H1 p (dnO p o) = H2 at s2 Dp ⊢
      have tw2 := tw1.up s2
      refine ed_ixc (G := fun H' => Same H2 H') (K := K) (i := 1) (d := spotD sp) (ed_var (d := wayD (.move sp dp n)) rfl fun H' s => tw2.up s) (atI_nat (j := 1) rfl) H2 (Same.refl _) _ fun k1 H3 s3 t1 => ?_
      refine ed_op (G := fun H' => Same H3 H') (d := .num (0 - n)) ed_int (ed_ixc (d := .num n) (ed_var (d := wayD (.move sp dp n)) rfl fun H' s => (tw2.up s3).up s) (atI_nat (j := 3) rfl)) rd_I0 H3 (Same.refl _) _ fun v1 H4 s4 tv1 => ?_
      have s24 := s3.trans s4
      refine ed_ixc (G := fun H' => Same H4 H') (K := K) (i := 2) (d := spotD dp) (ed_var (d := wayD (.move sp dp n)) rfl fun H' s => (tw2.up s24).up s) (atI_nat (j := 2) rfl) H4 (Same.refl _) _ fun k2 H5 s5 t2 => ?_
      refine ed_ixc (G := fun H' => Same H5 H') (K := K) (i := 3) (d := .num n) (ed_var (d := wayD (.move sp dp n)) rfl fun H' s => ((tw2.up s24).up s5).up s) (atI_nat (j := 3) rfl) H5 (Same.refl _) _ fun v2 H6 s6 tv2 => ?_
      cases tv1
      cases tv2
      obtain ⟨a1, xs1, rfl, _⟩ := t1.tup_inv
      obtain ⟨a2, xs2, rfl, _⟩ := t2.tup_inv
      have s26 := (s24.trans s5).trans s6
      have hne : spotD sp ≠ spotD dp := fun z => hg (spotD_inj z)
      refine ⟨o, [(spotD sp, a1, .int (0 - n)), (spotD dp, a2, .int n)], Dp.up s26, rfl, fun x hx => ?_, (show 2 ≤ 15 by decide), fun o' D' => ?_⟩
      · rcases List.mem_cons.mp hx with rfl | hx
        · exact ⟨((t1.up s4).up s5).up s6, Nat.le_of_ble_eq_true rfl⟩
        · rw [List.mem_singleton.mp hx]
          exact ⟨t2.up s6, Nat.le_of_ble_eq_true rfl⟩
      · have hput : putAllN [] [(spotD sp, a1, V.int (0 - n)), (spotD dp, a2, V.int n)] = [(spotD sp, a1, .int (0 - n)), (spotD dp, a2, .int n)] := by
          show putN (putN [] _ _ _) _ _ _ = _
          rw [putN_new (xs := []) (by simp), putN_new (by simpa using fun z : spotD dp = spotD sp => hne z.symm)]
          rfl
        rw [hput] at D'
        have Dq := Dp.up s26
        have s7 : Same H1 (upd H6 p (dnO p o')) := by
          have s16 : Same H1 H6 := s2.trans s26
          exact same_D s16 hp
        refine ⟨v, p, o', _, S, mvM sp dp n, rfl, (tv.up s1).up s7, fw, ok, D', fun q => ?_, fun u H8 s8 t8 => hq u H8 ((s1.trans s7).trans s8) t8⟩
        unfold findN mvM
        rw [List.find?_cons]
        by_cases e1 : q = sp
        · rw [decide_eq_true (show spotD sp = spotD q by rw [e1]), if_pos e1]; rfl
        · rw [decide_eq_false (fun z : spotD sp = spotD q => e1 (spotD_inj z).symm), if_neg e1, List.find?_cons]
          by_cases e2 : q = dp
          · rw [decide_eq_true (show spotD dp = spotD q by rw [e2]), if_pos e2]; rfl
          · rw [decide_eq_false (fun z : spotD dp = spotD q => e2 (spotD_inj z).symm), if_neg e2]; rfl
end
end K8
end

section
set_option Elab.async false
set_option linter.all false
set_option maxRecDepth 100000
set_option maxHeartbeats 4000000
/-! K81: the box of draws. -/
namespace K8
open PySem PySem.Spec PyProof.Rows L2
/-- the box at bx, c draws left -/
def Bx (bx : Addr) (c : Nat) (H : Hp) : Prop := ∃ x y z : Int, H bx = some (.lst [.int x, .int y, .int z]) ∧ 0 ≤ x ∧ 0 ≤ y ∧ y < 8589934592 ∧ 0 ≤ z ∧ z + (c : Int) ≤ 1000000000
theorem Bx.less {bx : Addr} {c k : Nat} {H : Hp} (h : Bx bx (c + k) H) : Bx bx c H := by
  obtain ⟨x, y, z, e, a1, a2, a3, a4, a5⟩ := h
  exact ⟨x, y, z, e, a1, a2, a3, a4, by omega⟩
theorem Bx.le {bx : Addr} {c k : Nat} {H : Hp} (h : Bx bx k H) (hc : c ≤ k) : Bx bx c H := by
  obtain ⟨d, rfl⟩ := Nat.le.dest hc
  exact h.less
theorem Bx.up {bx : Addr} {c : Nat} {H H' : Hp} (h : Bx bx c H) (s : Same H H') : Bx bx c H' := by
  obtain ⟨x, y, z, e, r⟩ := h
  exact ⟨x, y, z, s _ _ e, r⟩
/-- but for the box all stands; m draws gone at most -/
structure Ba (bx : Addr) (m : Nat) (H H' : Hp) : Prop where
  off : ∀ b o, b ≠ bx → H b = some o → H' b = some o
  box : ∀ c, Bx bx (c + m) H → Bx bx c H'
section
variable {bx : Addr} {m k : Nat} {H H1 H2 : Hp}
theorem Ba.refl : Ba bx 0 H H := ⟨fun _ _ _ e => e, fun _ h => h⟩
theorem Ba.of (s : Same H H1) : Ba bx 0 H H1 := ⟨fun _ _ _ e => s _ _ e, fun _ h => h.up s⟩
theorem Ba.trans (a : Ba bx m H H1) (b : Ba bx k H1 H2) : Ba bx (m + k) H H2 := ⟨fun c o n e => b.off c o n (a.off c o n e), fun c h => b.box c (a.box (c + k) (by rw [show c + k + m = c + (m + k) by omega]; exact h))⟩
theorem Ba.le (a : Ba bx m H H1) (h : m ≤ k) : Ba bx k H H1 := ⟨a.off, fun c hb => a.box c (hb.le (by omega))⟩
theorem Ba.same (a : Ba bx m H H1) (s : Same H1 H2) : Ba bx m H H2 := a.trans (Ba.of s)
theorem Same.ba (s : Same H H1) (a : Ba bx m H1 H2) : Ba bx m H H2 := by
  have := (Ba.of (bx := bx) s).trans a
  rwa [Nat.zero_add] at this
theorem Bx.ne_tup {c : Nat} {b : Addr} {xs : List V} (h : Bx bx c H) (r : Rd H b (.tup xs)) : b ≠ bx := by
  obtain ⟨x, y, z, e, _⟩ := h
  exact rd_ne r e (fun _ z => nomatch z) (fun _ _ z => nomatch z)
theorem Ba.ts {c : Nat} (a : Ba bx m H H1) (h : Bx bx c H) : Ts H H1 := fun b xs r => by
  have hb := h.ne_tup r
  rcases r with r | ⟨o, r⟩
  · exact .inl (a.off _ _ hb r)
  · exact .inr ⟨o, a.off _ _ hb r⟩
theorem Ba.free {p : Addr} (a : Ba bx m H H1) (h : H1 p = none) (hp : p ≠ bx) : H p = none := by
  cases e : H p with
  | none => rfl
  | some o => rw [a.off _ _ hp e] at h; cases h
theorem Bx.ne_free {c : Nat} {p : Addr} (h : Bx bx c H) (hp : H p = none) : p ≠ bx := by
  obtain ⟨x, y, z, e, _⟩ := h
  intro q
  rw [q, e] at hp
  cases hp
/-- a thing made on the way changed -/
theorem Ba.mut {p : Addr} {o : HO} (a : Ba bx m H H1) (h : H p = none) (hp : p ≠ bx) : Ba bx m H (upd H1 p o) :=
  ⟨fun b u n e => by rw [upd_ne (ne_of_none e h)]; exact a.off b u n e, fun c hb => by
    obtain ⟨x, y, z, e, r⟩ := a.box c hb
    exact ⟨x, y, z, by rw [upd_ne (Ne.symm hp)]; exact e, r⟩⟩
end
/-- a comprehension from where its iterator stands -/
def LcAt (J : It) (g : TG) (tt : TT) (te : TE) (vs : List Nat) (σ : L2.St) (Q : VK) (H1 : Hp) : Prop := ∀ D, H1 D = none → ∃ W : Nat → Nat → Hp → Prop, (∃ m, W 0 m (upd H1 D (.lst []))) ∧ ∀ i m H, W i m H →
  (J.stop i H ∧ Q (.ref D) H) ∨ (J.go i H ∧ ∃ Nx : Hp → Prop, (∀ H', Nx H' → ∃ m', m' < m ∧ W (i + 1) m' H') ∧ ∀ x H', J.yld i H x H' → g x (wipe σ vs) H' fun σ2 H2 => wipe σ2 vs = wipe σ vs ∧ tt σ2 H2 fun b H3 =>
    if b = true then te σ2 H3 fun y H4 => ∃ acc, H4 D = some (.lst acc) ∧ acc.length < sizeLine ∧ Nx (upd H4 D (.lst (acc ++ [y]))) else Nx H3)
theorem tLc_rng {ta : TE} {g : TG} {tt : TT} {te : TE} {vs : List Nat} {σ : L2.St} {H : Hp} {Q : VK} (h : ta σ H fun v H1 => ∃ j : Int, [v] = [.int j] ∧ -(2 ^ 62) ≤ j ∧ j < 2 ^ 62 ∧ LcAt (Itr 0 j.toNat) g tt te vs σ Q H1) : tLc (iRng1 (tCons ta tNil)) g tt te vs σ H Q := h
theorem q_op {r : R2} {ta tb : TE} {σ : L2.St} {H : Hp} {Q : VK} (h : ta σ H fun x H1 => tb σ H1 fun y H2 => r x y H2 Q) : tOp r ta tb σ H Q := h
/-- [e for i in range(n)], e drawing from the box -/
theorem lc_rngB {bx : Addr} {m n j : Nat} {te : TE} {vs : List Nat} {σ : L2.St} {R : V → Hp → Prop} (hj : j ∈ vs) (hR : ∀ v H H', R v H → Ts H H' → R v H') {H1 : Hp} {c : Nat} (hB : Bx bx (c + n * m) H1) (hn : n ≤ 100000)
    (hs : ∀ i, i < n → ∀ H c', (∀ b o, b ≠ bx → H1 b = some o → H b = some o) → Bx bx (c' + m) H → ∀ Q : VK, (∀ v H2, Ba bx m H H2 → R v H2 → Q v H2) → te ((wipe σ vs).set j (some (.int (i : Nat)))) H Q)
    {Q : VK} (hQ : ∀ p acc H2, H1 p = none → Ba bx (n * m) H1 H2 → H2 p = some (.lst acc) → acc.length = n → (∀ v ∈ acc, R v H2) → Q (.ref p) H2) :
    LcAt (Itr 0 n) (gName j) tYes te vs σ Q H1 := fun D hD => by
  have hDb := hB.ne_free hD
  refine lc_range (fun i H => i ≤ n ∧ Ba bx (i * m) H1 H ∧ ∃ acc, H D = some (.lst acc) ∧ acc.length = i ∧ ∀ v ∈ acc, R v H) ?_ ?_ ?_
  · refine ⟨Nat.zero_le _, ?_, [], by simp [upd], rfl, fun v h => (nomatch h)⟩
    rw [Nat.zero_mul]
    exact Ba.refl.mut hD hDb
  · rintro i H hi ⟨_, ba, acc, e, hl, hr⟩
    refine ⟨by rw [wipe_set hj, wipe_wipe fun i h => h], ?_⟩
    show te _ H _
    have hb : Bx bx (c + (n - i) * m) H := ba.box _ (hB.le (by rw [Nat.add_assoc, ← Nat.add_mul]; exact Nat.le_of_eq (by congr 2; omega)))
    have hb2 : Bx bx (c + (n - i - 1) * m + m) H := by
      have e : c + (n - i) * m = c + (n - i - 1) * m + m := by
        rw [Nat.add_assoc, ← Nat.succ_mul]; congr 2; omega
      rw [e] at hb
      exact hb
    have e0 : (0 : Int) + (i : Nat) = (i : Nat) := by omega
    rw [e0]
    refine hs i hi H _ ba.off hb2 _ fun v H2 b2 rv => ?_
    have e2 := b2.off _ _ hDb e
    have t2 := b2.ts hb2
    have t3 : Ts H2 (upd H2 D (.lst (acc ++ [v]))) := Ts.lst e2
    refine ⟨acc, e2, by have := sizeLine_eq; omega, hi, ?_, acc ++ [v], by simp [upd], by rw [List.length_append, hl]; rfl, fun u hu => ?_⟩
    · rw [Nat.succ_mul]
      exact (ba.trans b2).mut hD hDb
    · rcases List.mem_append.mp hu with hu | hu
      · exact hR _ _ _ (hR _ _ _ (hr u hu) t2) t3
      · rw [List.mem_singleton.mp hu]
        exact hR _ _ _ rv t3
  · rintro H ⟨_, ba, acc, e, hl, hr⟩
    exact hQ D acc H hD ba e hl hr
/-- a for from where its iterator stands -/
def FoAt (J : It) (g : TG) (tb : TS) (D : L2.Ends) (σ : L2.St) (H1 : Hp) : Prop := ∃ W : Nat → Nat → L2.St → Hp → Prop, (∃ m, W 0 m σ H1) ∧ ∀ i m σ H, W i m σ H →
  (J.stop i H ∧ D.nx σ H) ∨ (J.go i H ∧ ∃ N : L2.St → Hp → Prop, (∀ σ' H', N σ' H' → ∃ m', m' < m ∧ W (i + 1) m' σ' H') ∧ ∀ x H', J.yld i H x H' → g x σ H' fun σ2 H2 => tb { D with nx := N, ct := N, bk := D.nx } σ2 H2)
theorem tFor_rng {ta : TE} {g : TG} {tb : TS} {D : L2.Ends} {σ : L2.St} {H : Hp} (h : ta σ H fun v H1 => ∃ j : Int, [v] = [.int j] ∧ -(2 ^ 62) ≤ j ∧ j < 2 ^ 62 ∧ FoAt (Itr 0 j.toNat) g tb D σ H1) : tFor (iRng1 (tCons ta tNil)) g tb D σ H := h
theorem fo_rng {n j : Nat} {tb : TS} {D : L2.Ends} {σ : L2.St} {H1 : Hp} (Pv : Nat → L2.St → Hp → Prop) (h0 : Pv 0 σ H1)
    (hs : ∀ i τ H', i < n → Pv i τ H' → tb { D with nx := Pv (i + 1), ct := Pv (i + 1), bk := D.nx } (τ.set j (some (.int (i : Nat)))) H') (hd : ∀ τ H', Pv n τ H' → D.nx τ H') : FoAt (Itr 0 n) (gName j) tb D σ H1 := by
  refine ⟨fun i m τ H' => m = n - i ∧ i ≤ n ∧ Pv i τ H', ⟨n, rfl, Nat.zero_le _, h0⟩, ?_⟩
  rintro i m τ H' ⟨rfl, hle, p⟩
  by_cases hlt : i < n
  · refine .inr ⟨hlt, Pv (i + 1), fun τ' H'' p' => ⟨n - (i + 1), by omega, rfl, hlt, p'⟩, fun x H'' y => ?_⟩
    obtain ⟨rfl, rfl⟩ := y
    have e : (0 : Int) + (i : Nat) = (i : Nat) := by omega
    rw [e]
    exact hs i τ _ hlt p
  · have e : i = n := by omega
    subst e
    exact .inl ⟨Nat.le_refl _, hd τ H' p⟩
theorem q_seqAsg {te : TE} {g : TG} {u : TS} {D : L2.Ends} {σ : L2.St} {H : Hp} (h : te σ H fun v H1 => g v σ H1 (u D)) : tSeq (tAsg te g) u D σ H := h
theorem q_gu {D : L2.Ends} {u : TS} {τ : L2.St} {H : Hp} {i : Nat} {v : V} (h : u D (τ.set i (some v)) H) : gName i v τ H (u D) := h
end K8
end

section
set_option Elab.async false
set_option linter.all false
set_option maxRecDepth 100000
set_option maxHeartbeats 4000000
/-! K81: _law_take, _law_pick. -/
namespace K8
open PySem PySem.Spec PyProof.Rows L2
abbrev nTake : List Str := ["_law_box_here", "_law_bound", "_law_found", "_law_once"]
theorem sc_Take : FnScope nTake ["_law_box_here", "_law_bound"] (defScope (K81.top 17)) := ⟨rfl, rfl, rfl, by decide +kernel, rfl, by decide +kernel, by decide +kernel⟩
def spTake : Sp := fun vs H Q _ => ∃ (bx : Addr) (b : Int) (c : Nat), vs = [.ref bx, .int b] ∧ Bx bx (c + 1) H ∧ 1 ≤ b ∧ b < 1073741824 ∧ ∀ r H', 0 ≤ r → r < b → Ba bx 1 H H' → Q (.int r) H'
abbrev nPick : List Str := ["_law_box_here", "_law_things"]
theorem sc_Pick : FnScope nPick ["_law_box_here", "_law_things"] (defScope (K81.top 18)) := ⟨rfl, rfl, rfl, by decide +kernel, rfl, by decide +kernel, by decide +kernel⟩
def spPick : Sp := fun vs H Q _ => ∃ (bx a : Addr) (c : Nat) (us : List V) (ds : List Dt), vs = [.ref bx, .ref a] ∧ a ≠ bx ∧ Bx bx (c + 1) H ∧ H a = some (.lst us) ∧ TpA H us ds ∧ 1 ≤ ds.length ∧ ds.length < 1073741824 ∧ ∀ v d H', d ∈ ds → Ba bx 1 H H' → Tp H' v d → Q v H'
theorem nums3 {H : Hp} {x y z : Int} : TpA H [.int x, .int y, .int z] [.num x, .num y, .num z] := .cons (.num _) (.cons (.num _) (.cons (.num _) .nil))
section
variable {P : Program} {w : World} {K : PySem.W.Frag} {mg : Str → Option Value} {base : Heap}
theorem cal_Take (B : Bi mg) (D : DfE K mg "_law_take" 17) : Cal P w K mg base "_law_take" 1 ["_law_box_here", "_law_bound"] spTake := by
  obtain ⟨f, fd, D⟩ := D
  have nd := sc_Take.nd
  refine D.cal (D.F.ok sc_Take (fun vs H Q E h => ?_) fun cdv A outer s H vs Q E hr h => ⟨_, PSs.nox
    ((pss_cons (ps_if (pt_cmpR op_gt (pe_ix ix_list (pv 0) pe_int (fun _ _ => rfl)) pe_int (nomark _)) (pss_cons (ps_set (i := 2) nd rfl (by first | exact Or.inl rfl | exact Or.inr rfl) (pe_op op_mod (pe_ix ix_list (pv 0) pe_int (fun _ _ => rfl)) (pv 1)))
      (pss_cons (ps_asg (pe_op op_fdiv (pe_ix ix_list (pv 0) pe_int (fun _ _ => rfl)) (pv 1)) (pg_sub (pv 0) pe_int set_list))
      (pss_one (ps_ret (pv 2))))) pss_nil)
      (pss_cons (ps_asg (pe_op op_add (pe_ix ix_list (pv 0) pe_int (fun _ _ => rfl)) pe_int) (pg_sub (pv 0) pe_int set_list))
      (pss_cons (ps_set (i := 3) nd rfl (by first | exact Or.inl rfl | exact Or.inr rfl) (pe_op op_mod (pe_op op_pow (pe_op op_add (pe_ix ix_list (pv 0) pe_int (fun _ _ => rfl)) (pe_op op_mul pe_int (pe_ix ix_list (pv 0) pe_int (fun _ _ => rfl)))) pe_int) pe_int))
      (pss_one (ps_ret (pe_op op_mod (pe_op op_fdiv (pe_op op_mod (pe_op op_add (pe_op op_mul (pv 3) (pe_op op_add (pe_op op_mod (pv 3) pe_int) pe_int)) (pe_op op_mul (pe_ix ix_list (pv 0) pe_int (fun _ _ => rfl)) pe_int)) pe_int) pe_int) (pv 1)))))))), ?_⟩)
    (fun kV doc pm an cdv ct us hl => match us, hl with | [_, _], _ => rfl)
  · obtain ⟨bx, b, c, rfl, _⟩ := h; rfl
  · obtain ⟨bx, b, c, rfl, hb, b1, b2, hq⟩ := h
    obtain ⟨x, y, z, e, hx, hy, hy2, hz, hzc⟩ := id hb
    have esb : ∀ {H1 : Hp} {τ : L2.St} {x y z : Int}, H1 bx = some (.lst [.int x, .int y, .int z]) → τ[0]? = some (some (.ref bx)) → EvS (fun H' => Same H1 H') (tVar 0) τ [.num x, .num y, .num z] := fun e h0 => es_var h0 fun H' s => ⟨_, s _ _ e, nums3⟩
    have b0 : (0 : Int) < b := by omega
    have put : ∀ {H1 : Hp} {x' z' : Int}, Same H H1 → 0 ≤ x' → 0 ≤ z' → z' ≤ z + 1 → Ba bx 1 H (upd H1 bx (.lst [.int x', .int y, .int z'])) := fun {H1 x' z'} s1 hx' hz' hzz => ⟨fun p o n e' => by rw [upd_ne n]; exact s1 _ _ e', fun c hb' => by
      obtain ⟨x2, y2, z2, e2, _, _, _, _, h5⟩ := hb'
      rw [e] at e2
      cases e2
      exact ⟨x', y, z', by simp [upd], hx', hy, hy2, hz', by omega⟩⟩
    refine q_if (G := fun H' => Same H H') (b := decide (0 < x)) (et_cmp (ed_ixL (esb e rfl) ed_int (atI_nat (j := 0) rfl)) ed_int rb_I0) (Same.refl H) (fun hb1 H1 s1 => ?_) fun hb1 H1 s1 => ?_
    · have e1 := s1 _ _ e
      refine q_asgD (G := fun H' => Same H1 H') (d := .num (x % b)) (ed_op (ed_ixL (esb e1 rfl) ed_int (atI_nat (j := 0) rfl)) (ed_var rfl fun _ _ => .num b) (rd_I b0)) (Same.refl H1) fun rv H2 s2 t2 => ?_
      cases t2
      have e2 := s2 _ _ e1
      refine ed_op (G := fun H' => Same H2 H') (d := .num (x / b)) (ed_ixL (esb e2 rfl) ed_int (atI_nat (j := 0) rfl)) (ed_var rfl fun _ _ => .num b) (rd_I ⟨b0, b2⟩) H2 (Same.refl _) _ fun v H3 s3 t3 => ?_
      cases t3
      have e3 := s3 _ _ e2
      refine ⟨.ref bx, rfl, bx, _, 0, 0, rfl, rfl, e3, rfl, ?_⟩
      exact ⟨_, rfl, hq _ _ (Int.emod_nonneg x (by omega)) (Int.emod_lt_of_pos x b0) (put ((s1.trans s2).trans s3) (Int.ediv_nonneg hx (by omega)) hz (by omega))⟩
    · refine q_nx ?_
      have e1 := s1 _ _ e
      refine ed_op (G := fun H' => Same H1 H') (d := .num (z + 1)) (ed_ixL (esb e1 rfl) ed_int (atI_nat (j := 2) rfl)) ed_int rd_I0 H1 (Same.refl _) _ fun v H2 s2 t2 => ?_
      cases t2
      have e2 := s2 _ _ e1
      refine ⟨.ref bx, rfl, bx, _, 2, 2, rfl, rfl, e2, rfl, ?_⟩
      have ba := put (x' := x) (z' := z + 1) (s1.trans s2) hx (by omega) (by omega)
      have e3 : (upd H2 bx (.lst ([.int x, .int y, .int z].set 2 (.int (z + 1))))) bx = some (.lst [.int x, .int y, .int (z + 1)]) := by simp [upd]
      have ba3 : Ba bx 1 H (upd H2 bx (.lst ([.int x, .int y, .int z].set 2 (.int (z + 1))))) := ba
      generalize upd H2 bx (.lst ([.int x, .int y, .int z].set 2 (.int (z + 1)))) = H3 at e3 ba3 ⊢
      have hm1 : CMul 39373 (z + 1) := .inl ⟨by decide, by decide⟩
      have hp1 : CPow (y + 39373 * (z + 1)) 5 := by
        have h64 : (2 : Nat) ^ 64 = 18446744073709551616 := by decide
        exact ⟨by decide, by decide, by rw [h64]; omega⟩
      generalize hon : (y + 39373 * (z + 1)) ^ (5 : Int).toNat % 2147483647 = once
      have ho1 : 0 ≤ once := by rw [← hon]; exact Int.emod_nonneg _ (by decide)
      have ho2 : once < 2147483647 := by rw [← hon]; exact Int.emod_lt_of_pos _ (by decide)
      refine q_nx ?_
      refine q_asgD (G := fun H' => Same H3 H') (d := .num once) (EvD.to (ed_op (ed_op (ed_op (ed_ixL (esb e3 rfl) ed_int (atI_nat (j := 1) rfl)) (ed_op ed_int (ed_ixL (esb e3 rfl) ed_int (atI_nat (j := 2) rfl)) (rd_I hm1)) rd_I0) ed_int (rd_I hp1)) ed_int (rd_I (show (0 : Int) < 2147483647 by decide))) (by rw [hon])) (Same.refl H3) fun ov H4 s4 t4 => ?_
      cases t4
      have e4 := s4 _ _ e3
      have h64i : (2 : Int) ^ 64 = 18446744073709551616 := by decide
      have hm2 : CMul once (once % 40009 + 7) := .inl ⟨by rw [h64i]; omega, by rw [h64i]; omega⟩
      have hm3 : CMul (z + 1) 7919 := .inr ⟨by decide, by decide⟩
      refine q_retD (G := fun H' => Same H4 H') (d := .num ((once * (once % 40009 + 7) + (z + 1) * 7919) % 2147483629 / 64 % b)) (ed_op (ed_op (ed_op (ed_op (ed_op (ed_var rfl fun _ _ => .num once) (ed_op (ed_op (ed_var rfl fun _ _ => .num once) ed_int (rd_I (show (0 : Int) < 40009 by decide))) ed_int rd_I0) (rd_I hm2)) (ed_op (ed_ixL (esb e4 rfl) ed_int (atI_nat (j := 2) rfl)) ed_int (rd_I hm3)) rd_I0) ed_int (rd_I (show (0 : Int) < 2147483629 by decide))) ed_int (rd_I ⟨by decide, by decide⟩)) (ed_var rfl fun _ _ => .num b) (rd_I b0)) (Same.refl H4) fun v H5 s5 t5 => ?_
      cases t5
      exact hq _ _ (Int.emod_nonneg _ (by omega)) (Int.emod_lt_of_pos _ b0) ((ba3.same s4).same s5)
theorem cal_Pick (B : Bi mg) (D : DfE K mg "_law_pick" 18) (CLTake : Cal P w K mg base "_law_take" 1 ["_law_box_here", "_law_bound"] spTake) : Cal P w K mg base "_law_pick" 2 ["_law_box_here", "_law_things"] spPick := by
  obtain ⟨f, fd, D⟩ := D
  have nd := sc_Pick.nd
  refine D.cal (D.F.ok sc_Pick (fun vs H Q E h => ?_) fun cdv A outer s H vs Q E hr h => ⟨_, PSs.nox
    ((pss_one (ps_ret (pe_ix ix_list (pv 1) (pe_callC CLTake (hr.mono (by decide)) (pa_cons (pv 0) (pa_cons (pe_callB call_len_seq rfl B.len PySem.boot_len (pa_cons (pv 1) pa_nil)) pa_nil))) (fun _ _ => rfl))))), ?_⟩)
    (fun kV doc pm an cdv ct us hl => match us, hl with | [_, _], _ => rfl)
  · obtain ⟨bx, a, c, us, ds, rfl, _⟩ := h; rfl
  · obtain ⟨bx, a, c, us, ds, rfl, hne, hb, ha, tu, l1, l2, hq⟩ := h
    refine ⟨.ref a, rfl, .ref bx, rfl, .ref a, rfl, a, us, rfl, .inl (.inl (.inl ha)), bx, (us.length : Int), c, rfl, hb, by rw [tu.length]; omega, by rw [tu.length]; omega, fun r H1 r0 r1 ba => ?_⟩
    have ha1 := ba.off _ _ hne ha
    have tu1 := tu.mono (ba.ts hb)
    have hlt : r.toNat < ds.length := by rw [tu.length] at r1; omega
    have hg : ds[r.toNat]? = some ds[r.toNat] := List.getElem?_eq_getElem hlt
    obtain ⟨u, hu, tU⟩ := tu1.get hg
    refine ⟨a, us, r, u, rfl, rfl, .inl (.inl ha1), ?_, hq u _ H1 (List.getElem_mem hlt) ba tU⟩
    have e : r = ((r.toNat : Nat) : Int) := by omega
    rw [e]
    exact atI_nat hu
end
end K8
end

section
set_option Elab.async false
set_option linter.all false
set_option maxRecDepth 100000
set_option maxHeartbeats 4000000
/-! K81: _law_names. -/
namespace K8
open PySem PySem.Spec PyProof.Rows L2
abbrev OkT (x : Str) : Prop := PyData.strOk x = true
theorem okT_iff {x : Str} : OkT x ↔ ∀ c ∈ x.cps.toList, c < 0x110000 := by
  unfold OkT PyData.strOk
  rw [← Array.all_toList, List.all_eq_true]
  exact ⟨fun h c hc => of_decide_eq_true (h c hc), fun h c hc => decide_eq_true (h c hc)⟩
theorem cps_app (x y : Str) : (x ++ y).cps.toList = x.cps.toList ++ y.cps.toList := by
  rw [Str.cps_append, Array.toList_append]
theorem okT_app {x y : Str} (hx : OkT x) (hy : OkT y) : OkT (x ++ y) := okT_iff.mpr fun c hc => by
  rw [cps_app] at hc
  rcases List.mem_append.mp hc with h | h
  · exact okT_iff.mp hx c h
  · exact okT_iff.mp hy c h
theorem okT_cut {x : Str} (hx : OkT x) (lo hi : Option Int) : OkT (cutS x lo hi) := okT_iff.mpr fun c hc => by
  unfold cutS at hc
  have : c ∈ x.cps.toList := List.mem_of_mem_drop (List.mem_of_mem_take hc)
  exact okT_iff.mp hx c this
theorem okT_join : ∀ {ys : List Str}, (∀ y ∈ ys, OkT y) → OkT (Txt.join (Str.ofString "") ys)
  | [], _ => by decide +kernel
  | [y], h => h y (by simp)
  | y :: z :: r, h => by
    have h1 : Txt.join (Str.ofString "") (y :: z :: r) = y ++ Str.ofString "" ++ Txt.join (Str.ofString "") (z :: r) := by
      rw [show Txt.join (Str.ofString "") (y :: z :: r) = Str.join (Str.ofString "") (y :: z :: r) from PySem.StrLaws.glued_eq_join _ _, show Txt.join (Str.ofString "") (z :: r) = Str.join (Str.ofString "") (z :: r) from PySem.StrLaws.glued_eq_join _ _]
      rfl
    rw [h1]
    exact okT_app (okT_app (h y (by simp)) (by decide +kernel)) (okT_join fun q hq => h q (by simp [hq]))
theorem len_join : ∀ {ys : List Str} {n : Nat}, (∀ y ∈ ys, y.length ≤ 1) → ys.length ≤ n → (Txt.join (Str.ofString "") ys).length ≤ n
  | [], n, _, _ => Nat.zero_le _
  | [y], n, h, hl => Nat.le_trans (h y (by simp)) hl
  | y :: z :: r, n, h, hl => by
    have h1 : Txt.join (Str.ofString "") (y :: z :: r) = y ++ Str.ofString "" ++ Txt.join (Str.ofString "") (z :: r) := by
      rw [show Txt.join (Str.ofString "") (y :: z :: r) = Str.join (Str.ofString "") (y :: z :: r) from PySem.StrLaws.glued_eq_join _ _, show Txt.join (Str.ofString "") (z :: r) = Str.join (Str.ofString "") (z :: r) from PySem.StrLaws.glued_eq_join _ _]
      rfl
    rw [List.length_cons] at hl
    have h2 := len_join (ys := z :: r) (n := n - 1) (fun q hq => h q (by simp [hq])) (by omega)
    have h3 := h y (by simp)
    have h4 : ∀ a b : Str, (a ++ b).length = a.length + b.length := fun a b => by
      show (a ++ b).cps.size = _
      rw [Str.cps_append, Array.size_append]
      rfl
    rw [h1, h4, h4]
    have h5 : (Str.ofString "" : Str).length = 0 := by decide +kernel
    omega
def letters : Str := Str.ofString "abcdefghijklmnopqrstuvwxyz"
def signs : List Str := letters.cps.toList.map fun c => ⟨#[c]⟩
theorem signs_len : signs.length = 26 := by decide +kernel
theorem signs_nd : signs.Nodup := by decide +kernel
theorem signs_ok : ∀ x ∈ signs, OkT x := by decide +kernel
theorem signs_one : ∀ x ∈ signs, x.length = 1 := by decide +kernel
theorem letters_len : letters.cps.toList.length = 26 := by decide +kernel
theorem app_inj {x y z : Str} (h : x ++ y = x ++ z) : y = z := by
  have h1 : (x ++ y).cps.toList = (x ++ z).cps.toList := by rw [h]
  rw [cps_app, cps_app] at h1
  have h2 := List.append_cancel_left h1
  cases y
  cases z
  congr 1
  exact Array.toList_inj.mp h2
/-- one of the candidates is new -/
theorem some_new {name : Str} {found : List Str} (hf : found.length < 26) : ((name :: signs.map fun c => cutS name none (some 5) ++ c).filter fun x => !decide (x ∈ found)) ≠ [] := fun e => by
  have h1 : ∀ x ∈ signs.map fun c => cutS name none (some 5) ++ c, x ∈ found := fun x hx => by
    by_cases h : x ∈ found
    · exact h
    · have : x ∈ (name :: signs.map fun c => cutS name none (some 5) ++ c).filter fun x => !decide (x ∈ found) := List.mem_filter.mpr ⟨List.mem_cons_of_mem _ hx, by simp [h]⟩
      rw [e] at this
      cases this
  have h2 : (signs.map fun c => cutS name none (some 5) ++ c).Nodup := by
    refine List.Pairwise.map _ (fun a b hab he => hab (app_inj he)) signs_nd
  have h3 := nodup_len h2 h1
  rw [List.length_map, signs_len] at h3
  omega
section
variable {G : Hp → Prop} {te ta tb : TE} {σ : L2.St} {K : PySem.W.Frag}
/-- x not in a list of texts that stands -/
theorem rb_ninL [Stb G] {k : Str} {ks : List Str} (hk : EvD G ta σ (.text k)) (h : EvS G tb σ (ks.map NestedKey.text)) : EvB G (tOp (rIn K true) ta tb) σ (!decide (k ∈ ks)) := fun H1 g Q q =>
  hk H1 g _ fun v H2 s t => h H2 (Stb.up g s) _ fun u H3 s3 ⟨a, us, e, e1, tu⟩ => by
    subst e
    cases t
    have := TpA.texts tu
    subst this
    refine ⟨a, _, rfl, .inl (.inl (.inl e1)), rfl, all_flat_texts ks, ?_⟩
    rw [if_pos rfl, inV_texts]
    exact q _ H3 (s.trans s3) rfl
theorem ed_cat_str [Stb G] {x y : Str} (ha : EvD G ta σ (.text x)) (hb : EvD G tb σ (.text y)) (hl : x.length + y.length ≤ 100000) : EvD G (tOp (fun x y H Q => ∃ i j, x = .str i ∧ y = .str j ∧ i.length + j.length ≤ sizeLine ∧ Q (.str (i ++ j)) H) ta tb) σ (.text (x ++ y)) := fun H1 g Q q =>
  ha H1 g _ fun v H2 s t => hb H2 (Stb.up g s) _ fun u H3 s3 t3 => by
    cases t
    cases t3
    exact ⟨x, y, rfl, rfl, by have := sizeLine_eq; omega, q _ H3 (s.trans s3) (.txt _)⟩
theorem ed_slS [Stb G] {tl th : TO} {x : Str} {lo hi : Option Int} (h : EvD G te σ (.text x)) (h1 : EvO G tl σ lo) (h2 : EvO G th σ hi) (hl : x.length ≤ 100000) : EvD G (tSl rSlS te tl th) σ (.text (cutS x lo hi)) := fun H1 g Q q =>
  h H1 g _ fun v H2 s t => h1 H2 (Stb.up g s) _ fun H3 s3 => h2 H3 (Stb.up (Stb.up g s) s3) _ fun H4 s4 => by
    cases t
    exact ⟨x, rfl, by have := sizeLine_eq; omega, q _ H4 ((s.trans s3).trans s4) (.txt _)⟩
end
theorem cutS_len (x : Str) (lo hi : Option Int) : (cutS x lo hi).length ≤ x.length := by
  show (((x.cps.toList.drop _).take _).toArray).size ≤ x.cps.size
  rw [List.size_toArray, List.length_take, List.length_drop, Array.length_toList]
  omega
theorem strs_of {acc : List V} {H : Hp} (h : ∀ v ∈ acc, ∃ x : Str, v = .str x ∧ OkT x ∧ x.length ≤ 1) : ∃ ys : List Str, acc = ys.map V.str ∧ (∀ y ∈ ys, OkT y) ∧ ∀ y ∈ ys, y.length ≤ 1 := by
  induction acc with
  | nil => exact ⟨[], rfl, fun y h => (nomatch h), fun y h => (nomatch h)⟩
  | cons v acc ih =>
    obtain ⟨ys, e, a, b⟩ := ih fun u hu => h u (List.mem_cons_of_mem _ hu)
    obtain ⟨x, e1, o, l⟩ := h v List.mem_cons_self
    refine ⟨x :: ys, by rw [e1, e]; rfl, fun y hy => ?_, fun y hy => ?_⟩
    · rcases List.mem_cons.mp hy with rfl | hy
      · exact o
      · exact a y hy
    · rcases List.mem_cons.mp hy with rfl | hy
      · exact l
      · exact b y hy
theorem sum_one {ys : List Str} (h : ∀ y ∈ ys, y.length ≤ 1) : (ys.map (·.length)).sum ≤ ys.length := by
  induction ys with
  | nil => exact Nat.le_refl _
  | cons y ys ih =>
    have h1 := h y List.mem_cons_self
    have h2 := ih fun z hz => h z (List.mem_cons_of_mem _ hz)
    rw [List.map_cons, List.sum_cons, List.length_cons]
    omega
abbrev nNames : List Str := ["_law_box_here", "_law_many", "_law_letters", "_law_found", "_law_k", "_law_name", "_law_j", "_law_made", "_law_sign"]
theorem sc_Names : FnScope nNames ["_law_box_here", "_law_many"] (defScope (K81.top 20)) := ⟨rfl, rfl, rfl, by decide +kernel, rfl, by decide +kernel, by decide +kernel⟩
def spNames : Sp := fun vs H Q _ => ∃ (bx : Addr) (n c : Nat), vs = [.ref bx, .int (n : Nat)] ∧ n ≤ 5 ∧ Bx bx (c + 40) H ∧ ∀ p us H' (ks : List Str), H p = none → Ba bx 40 H H' → H' p = some (.lst us) → TpA H' us (ks.map NestedKey.text) → ks.length = n → (∀ k ∈ ks, OkT k) → Q (.ref p) H'
section
variable {P : Program} {w : World} {K : PySem.W.Frag} {mg : Str → Option Value} {base : Heap}
theorem cal_Names (B : Bi mg) (D : DfE K mg "_law_names" 20) (CLTake : Cal P w K mg base "_law_take" 1 ["_law_box_here", "_law_bound"] spTake) : Cal P w K mg base "_law_names" 2 ["_law_box_here", "_law_many"] spNames := by
  obtain ⟨f, fd, D⟩ := D
  have nd := sc_Names.nd
  refine D.cal (D.F.ok sc_Names (fun vs H Q E h => ?_) fun cdv A outer s H vs Q E hr h => ⟨_, PSs.nox
    ((pss_cons (ps_asg (pe_tup (pa_cons pe_str (pa_cons (pe_lst pa_nil) pa_nil))) (pg_tup rfl (pgs_cons (pg_name (i := 2) nd rfl (by first | exact Or.inl rfl | exact Or.inr rfl)) (pgs_cons (pg_name (i := 3) nd rfl (by first | exact Or.inl rfl | exact Or.inr rfl)) pgs_nil))))
      (pss_cons (ps_for PassesOwn.never rfl (pi_range1 rfl B.range (pa_cons (pv 1) pa_nil)) (pg_name (i := 4) nd rfl (by first | exact Or.inl rfl | exact Or.inr rfl)) (pss_cons (ps_set (i := 5) nd rfl (by first | exact Or.inl rfl | exact Or.inr rfl) (pe_join pe_str (pe_lc (wi := (iRng1 (tCons (tOp (rIxL K) _ _) tNil))) (g := (gName 6)) (tt := tYes) (te := _) rfl nd (pi_range1 rfl B.range (pa_cons (pe_ix ix_list (pe_lst (pa_cons pe_int (pa_cons pe_int (pa_cons pe_int (pa_cons pe_int pa_nil))))) (pe_callC CLTake (hr.mono (by decide)) (pa_cons (pv 0) (pa_cons pe_int pa_nil))) (fun _ _ => rfl)) pa_nil)) (blkOk_by (own := [("_law_j", 6)]) (by kernel_rfl)) (fun _ _ _ _ _ => (pg_name (i := 6) nd rfl (by first | exact Or.inl rfl | exact Or.inr rfl))) (fun _ _ _ _ _ => pts_nil) (fun _ _ _ _ _ => (pe_ix ix_str (pv 2) (pe_callC CLTake (hr.mono (by decide)) (pa_cons (pv 0) (pa_cons pe_int pa_nil))) (fun _ _ => rfl))))))
      (pss_one (ps_expr (pe_bm PySem.F.plainAttrs_list PySem.F.slot_list_append PySem.F.type_list_append mt_append (pv 3) (pa_cons (pe_ix ix_list (pe_lc (wi := (iList K (tOp _ _ (tLc (iStr _) (gName 8) tYes _ _)))) (g := (gName 7)) (tt := (tTest (tOp (rIn K true) _ _))) (te := _) rfl nd (pi_list (pe_op op_cat (pe_lst (pa_cons (pv 5) pa_nil)) (pe_lc (wi := (iStr _)) (g := (gName 8)) (tt := tYes) (te := _) rfl nd (pi_str (pv 2)) (blkOk_by (own := [("_law_sign", 8)]) (by kernel_rfl)) (fun _ _ _ _ _ => (pg_name (i := 8) nd rfl (by first | exact Or.inl rfl | exact Or.inr rfl))) (fun _ _ _ _ _ => pts_nil) (fun _ _ _ _ _ => (pe_op op_add_str (pe_slice sl_str (pv 5) po_none (po_some pe_int)) (pv 8)))))) (blkOk_by (own := [("_law_made", 7)]) (by kernel_rfl)) (fun _ _ _ _ _ => (pg_name (i := 7) nd rfl (by first | exact Or.inl rfl | exact Or.inr rfl))) (fun _ _ _ _ _ => (pts_one (pt_cmpR op_notIn_seq (pv 7) (pv 3) (by with_unfolding_all rfl)))) (fun _ _ _ _ _ => (pv 7))) pe_int (fun _ _ => rfl)) pa_nil))))))
      (pss_one (ps_ret (pv 3)))))), ?_⟩)
    (fun kV doc pm an cdv ct us hl => match us, hl with | [_, _], _ => rfl)
  · obtain ⟨bx, n, c, rfl, _⟩ := h; rfl
  · obtain ⟨bx, n, c, rfl, hn, hb, hq⟩ := h
    have hbx := hb
    refine ⟨Nat.zero_le _, fun l hl => ?_⟩
    have hlb : l ≠ bx := hb.ne_free hl
    have s1 := same_new (o := .lst []) hl
    have e1 : (upd H l (.lst [])) l = some (.lst []) := by simp [upd]
    generalize upd H l (.lst []) = Hl at s1 e1 ⊢
    refine ⟨(by show 2 ≤ sizeLine; decide), fun t ht => ?_⟩
    have s2 := same_new (o := .tup [.str letters, .ref l]) ht
    refine ⟨t, [.str letters, .ref l], rfl, .inl (.inl (by simp [upd]; rfl)), rfl, _, _, rfl, _, _, rfl, rfl, ?_⟩
    have s02 : Same H (upd Hl t (.tup [.str letters, .ref l])) := s1.trans s2
    have e2 : (upd Hl t (.tup [.str letters, .ref l])) l = some (.lst []) := s2 _ _ e1
    refine q_nx ?_
    show tFor _ _ _ _ _ (upd Hl t (.tup [.str letters, .ref l]))
    generalize upd Hl t (.tup [.str letters, .ref l]) = H0 at s02 e2 ⊢
    refine q_forJ (G := fun H' => Same H0 H') (xs := List.range n) (mk := fun i => NestedKey.num (i : Nat)) (ei_range1 (ed_var rfl fun _ _ => .num _) (by omega)) (Same.refl H0) (fun H2 i τ H' => ∃ (fs : List V) (ks : List Str) (o4 o5 o6 o7 o8 : Option V), τ = [some (.ref bx), some (.int (n : Nat)), some (.str letters), some (.ref l), o4, o5, o6, o7, o8] ∧ Ts H2 H' ∧ Ba bx (i * 7) H H' ∧ H' l = some (.lst fs) ∧ TpA H' fs (ks.map NestedKey.text) ∧ ks.length = i ∧ ∀ k ∈ ks, OkT k) ?_ ?_ ?_ ?_
    · exact fun H2 s3 => ⟨[], [], none, none, none, none, none, rfl, Ts.of (Same.refl _), by rw [Nat.zero_mul]; exact Ba.of (s02.trans s3), s3 _ _ e2, .nil, rfl, fun k h => (nomatch h)⟩
    · rintro H2 s3 i τ H' ⟨_, _, _, _, _, _, _, _, t, _⟩; exact t
    · rintro H2 s3 i a τ H' H'' x ha ham ⟨fs, ks, o4, o5, o6, o7, o8, rfl, ts, ba, el, tf, hkl, hok⟩ s4 tx
      have hi : i < n := by have := (List.getElem?_eq_some_iff.mp ha).1; rwa [List.length_range] at this
      refine eg_name ?_
      have baA := ba.same s4
      have hb7 : Bx bx (c + 5 + (7 * (4 - i) + 7)) H'' := baA.box _ (hb.le (by omega))
      -- how many signs
      refine ⟨⟨_, rfl⟩, ?_⟩
      refine tLc_rng (q_op ?_)
      refine el_lst (G := fun H3 => Same H'' H3) (ds := [.num 1, .num 1, .num 2, .num 6]) (ea_cons ed_int (ea_cons ed_int (ea_cons ed_int (ea_cons ed_int ea_nil)))) (show 4 ≤ 100000 by decide) H'' (Same.refl _) _ fun p us H3 hp s5 e3 t3 => ?_
      have hb3 := hb7.up s5
      have hpb : p ≠ bx := hb7.ne_free hp
      refine ⟨.ref bx, rfl, bx, 4, c + 5 + 7 * (4 - i) + 6, rfl, hb3.le (by omega), by decide, by decide, fun r H4 r0 r1 b4 => ?_⟩
      have e4 := b4.off _ _ hpb e3
      have t4 := t3.mono (b4.ts hb3)
      have hlt : r.toNat < 4 := by omega
      obtain ⟨m, hm, hm6⟩ : ∃ m : Nat, ([.num 1, .num 1, .num 2, .num 6] : List Dt)[r.toNat]? = some (.num (m : Nat)) ∧ m ≤ 6 := by
        match r.toNat, hlt with
        | 0, _ => exact ⟨1, rfl, by decide⟩
        | 1, _ => exact ⟨1, rfl, by decide⟩
        | 2, _ => exact ⟨2, rfl, by decide⟩
        | 3, _ => exact ⟨6, rfl, by decide⟩
      obtain ⟨mv, hmv, tmv⟩ := t4.get hm
      have tmv' := tmv.num_inv
      subst tmv'
      have hr : r = ((r.toNat : Nat) : Int) := by omega
      refine ⟨p, us, r, .int (m : Nat), rfl, rfl, .inl (.inl e4), by rw [hr]; exact atI_nat hmv, ((m : Nat) : Int), rfl, by omega, by omega, ?_⟩
      rw [Int.toNat_natCast]
      have hb4 : Bx bx (c + 5 + 7 * (4 - i) + 6) H4 := b4.box _ (hb3.le (by omega))
      refine lc_rngB (R := fun v _ => ∃ x : Str, v = .str x ∧ OkT x ∧ x.length ≤ 1) (m := 1) (n := m) (c := c + 5 + 7 * (4 - i) + (6 - m)) (show (6 : Nat) ∈ [6] by decide) (fun v H H' h _ => h) (hb4.le (by omega)) (by omega) ?_ ?_
      · intro j hj H5 c5 off5 hb5 Q5 hq5
        refine ⟨.str letters, rfl, .ref bx, rfl, bx, 26, c5, rfl, hb5, by decide, by decide, fun r5 H6 q0 q1 b6 => ?_⟩
        have hlt5 : r5.toNat < letters.cps.toList.length := by rw [letters_len]; omega
        obtain ⟨c0, hc0⟩ : ∃ c0, letters.cps.toList[r5.toNat]? = some c0 := ⟨_, List.getElem?_eq_getElem hlt5⟩
        have hr5 : r5 = ((r5.toNat : Nat) : Int) := by omega
        have hat : atI letters.cps.toList r5 = some c0 := by rw [hr5]; exact atI_nat hc0
        exact ⟨letters, r5, c0, rfl, rfl, (by decide +kernel), hat, hq5 _ H6 b6 ⟨_, rfl, signs_ok _ (List.mem_map.mpr ⟨c0, List.mem_of_getElem? hc0, rfl⟩), Nat.le_refl 1⟩⟩
      · intro q acc H5 hq5 b5 e5 hl5 hR5
        obtain ⟨ys, rfl, hy1, hy2⟩ := strs_of (H := H5) hR5
        have hyl : ys.length = m := by rw [← hl5, List.length_map]
        have hsum := sum_one hy2
        refine ⟨Str.ofString "", q, ys, rfl, rfl, .inl (.inl (.inl e5)), ?_, ?_⟩
        · have h0 : (Str.ofString "" : Str).length = 0 := by decide +kernel
          rw [h0, Nat.mul_zero]
          omega
        · have hname : OkT (Txt.join (Str.ofString "") ys) := okT_join hy1
          have hnl : (Txt.join (Str.ofString "") ys).length ≤ 6 := len_join hy2 (by omega)
          generalize Txt.join (Str.ofString "") ys = name at hname hnl ⊢
          refine q_gn ?_
          have baB : Ba bx (i * 7 + (0 + 1 + m * 1)) H H5 := baA.trans (((Ba.of s5).trans b4).trans b5)
          have ts5 : Ts H2 H5 := ts.trans ((Ts.of (s4.trans s5)).trans ((b4.ts hb3).trans (b5.ts hb4)))
          have el5 : H5 l = some (.lst fs) := b5.off _ _ hlb (b4.off _ _ hlb (s5 _ _ (s4 _ _ el)))
          have tf5 : TpA H5 fs (ks.map NestedKey.text) := tf.mono ((Ts.of (s4.trans s5)).trans ((b4.ts hb3).trans (b5.ts hb4)))
          have hne := some_new (name := name) (found := ks) (by omega)
          generalize hcd : (name :: signs.map fun c => cutS name none (some 5) ++ c) = cands at hne
          have hcok : ∀ x ∈ cands, OkT x := fun x hx => by
            rw [← hcd] at hx
            rcases List.mem_cons.mp hx with rfl | hx
            · exact hname
            · obtain ⟨z, hz, rfl⟩ := List.mem_map.mp hx
              exact okT_app (okT_cut hname _ _) (signs_ok z hz)
          have hcl : cands.length = 27 := by rw [← hcd, List.length_cons, List.length_map, signs_len]
          cases hf : cands.filter fun x => !decide (x ∈ ks) with
          | nil => exact absurd hf hne
          | cons x0 rest =>
            have hx0 : OkT x0 := hcok x0 (List.mem_filter.mp (by rw [hf]; exact List.mem_cons_self : x0 ∈ cands.filter fun x => !decide (x ∈ ks))).1
            refine q_append (G := fun H6 => Same H5 H6) (d := .text x0) (us := fs) rfl (ed_ixL (ds := (cands.filter fun x => !decide (x ∈ ks)).map NestedKey.text) (es_of (el_lc (xs := cands) (mk := NestedKey.text) (fun x => !decide (x ∈ ks)) NestedKey.text (ei_list (EvL.to (el_cat (ds := [.text name]) (es := signs.map fun c => NestedKey.text (cutS name none (some 5) ++ c)) (es_of (el_lst (ea_cons (ed_var rfl fun _ _ => .txt name) ea_nil) (show 1 ≤ 100000 by decide))) (es_of (el_lcM (xs := signs) (mk := NestedKey.text) (fun c => .text (cutS name none (some 5) ++ c)) (((ei_str (z := letters) (ed_var rfl fun _ _ => .txt letters)).to (by unfold signs; rw [List.map_map]; rfl)).ei) (by rw [signs_len]; decide) ?_)) ?_) ?_)) (by omega) ?_)) ed_int (by rw [hf]; exact atI_nat (j := 0) rfl)) (Same.refl H5) el5 ?_ fun v H6 s6 t6 => ?_
            · intro H6 s6 c0 hc0 y Hy sy ty
              refine eg_name ⟨Same.refl _, rfl, et_yes, ed_cat_str (ed_slS (ed_var rfl fun _ _ => .txt name) eo_none (eo_some ed_int) (by omega)) (ed_var rfl fun H' s => ty.up s) ?_⟩
              have := cutS_len name none (some 5)
              rw [signs_one c0 hc0]; omega
            · rw [List.length_map, signs_len]; show 1 + 26 ≤ 100000; decide
            · rw [← hcd, List.map_cons, List.map_map]; rfl
            · intro H6 s6 x hx y Hy sy ty
              exact eg_name ⟨Same.refl _, rfl, et_test (rb_ninL (ed_var rfl fun H' s => ty.up s) (es_var rfl fun H' s => ⟨fs, s _ _ (sy _ _ (s6 _ _ el5)) , ((tf5.up s6).up sy).up s⟩)), fun _ => ed_var rfl fun H' s => ty.up s⟩
            · rw [tf.length, List.length_map]; omega
            · have e6 := s6 _ _ el5
              refine ⟨fs ++ [v], ks ++ [x0], _, _, _, _, _, rfl, (ts5.trans (Ts.of s6)).trans (Ts.lst e6), ((baB.same s6).mut hl hlb).le (by omega), by simp [upd], ?_, by rw [List.length_append, hkl]; rfl, fun k hk => ?_⟩
              · rw [List.map_append]
                exact ((tf5.up s6).snoc t6).mono (Ts.lst e6)
              · rcases List.mem_append.mp hk with hk | hk
                · exact hok k hk
                · rw [List.mem_singleton.mp hk]; exact hx0
    · rintro H2 s3 τ H' ⟨fs, ks, o4, o5, o6, o7, o8, rfl, ts, ba, el, tf, hkl, hok⟩
      rw [List.length_range] at ba hkl
      exact ⟨_, rfl, hq l fs H' ks hl (ba.le (by omega)) el tf hkl hok⟩
end
end K8
end

section
set_option Elab.async false
set_option linter.all false
set_option maxRecDepth 100000
set_option maxHeartbeats 4000000
/-! K81: _law_strewn. -/
namespace K8
open PySem PySem.Spec PyProof.Rows L2
abbrev nStrewn : List Str := ["_law_box_here", "_law_things", "_law_left", "_law_found"]
theorem sc_Strewn : FnScope nStrewn ["_law_box_here", "_law_things"] (defScope (K81.top 21)) := ⟨rfl, rfl, rfl, by decide +kernel, rfl, by decide +kernel, by decide +kernel⟩
def spStrewn : Sp := fun vs H Q _ => ∃ (bx a : Addr) (us : List V) (rows : List Rw) (c : Nat), vs = [.ref bx, .ref a] ∧ H a = some (.lst us) ∧ TpA H us (rows.map bkD) ∧ rows.length ≤ 1000 ∧ (∀ p ∈ rows, OkT p.1) ∧ Bx bx (c + rows.length) H ∧ ∀ p ws H' (rows' : List Rw), H p = none → Ba bx rows.length H H' → H' p = some (.lst ws) → TpA H' ws (rows'.map bkD) → rows'.Perm rows → Q (.ref p) H'
theorem perm_pop {α : Type} {l f r : List α} {k : Nat} {x : α} (h : (l ++ f).Perm r) (hk : l[k]? = some x) : (l.eraseIdx k ++ (f ++ [x])).Perm r := by
  have h1 : l.Perm (x :: l.eraseIdx k) := by
    obtain ⟨hlt, rfl⟩ := List.getElem?_eq_some_iff.mp hk
    have e : l = l.take k ++ l[k] :: l.drop (k + 1) := by
      rw [← List.drop_eq_getElem_cons hlt, List.take_append_drop]
    have e2 : l.eraseIdx k = l.take k ++ l.drop (k + 1) := List.eraseIdx_eq_take_drop_succ l k
    rw [e2]
    have h3 : (l.take k ++ l[k] :: l.drop (k + 1)).Perm (l[k] :: (l.take k ++ l.drop (k + 1))) := List.perm_middle
    rwa [← e] at h3
  have h2 : (l.eraseIdx k ++ (f ++ [x])).Perm (x :: l.eraseIdx k ++ f) := by
    rw [← List.append_assoc]
    exact List.perm_append_comm
  exact h2.trans ((h1.symm.append_right f).trans h)
section
variable {P : Program} {w : World} {K : PySem.W.Frag} {mg : Str → Option Value} {base : Heap}
theorem cal_Strewn (B : Bi mg) (D : DfE K mg "_law_strewn" 21) (CLTake : Cal P w K mg base "_law_take" 1 ["_law_box_here", "_law_bound"] spTake) : Cal P w K mg base "_law_strewn" 2 ["_law_box_here", "_law_things"] spStrewn := by
  obtain ⟨f, fd, D⟩ := D
  have nd := sc_Strewn.nd
  refine D.cal (D.F.ok sc_Strewn (fun vs H Q E h => ?_) fun cdv A outer s H vs Q E hr h => ⟨_, PSs.nox
    ((pss_cons (ps_par (i := 2) (j := 3) rfl nd rfl rfl (by decide) rfl rfl (pa_cons (pe_callTy call_list_of rfl B.list boot_list (pa_cons (pv 1) pa_nil)) (pa_cons (pe_lst pa_nil) pa_nil)) (by rfl))
      (pss_cons (ps_while PassesOwn.never (pt_cmpR (op_neD hr.units) (pv 2) (pe_lst pa_nil) (nomark _)) (pss_one (ps_expr (pe_bm PySem.F.plainAttrs_list PySem.F.slot_list_append PySem.F.type_list_append mt_append (pv 3) (pa_cons (pe_bm PySem.F.plainAttrs_list PySem.F.slot_list_pop PySem.F.type_list_pop mt_popAt (pv 2) (pa_cons (pe_callC CLTake (hr.mono (by decide)) (pa_cons (pv 0) (pa_cons (pe_callB call_len_seq rfl B.len PySem.boot_len (pa_cons (pv 2) pa_nil)) pa_nil))) pa_nil)) pa_nil)))))
      (pss_one (ps_ret (pv 3)))))), ?_⟩)
    (fun kV doc pm an cdv ct us hl => match us, hl with | [_, _], _ => rfl)
  · obtain ⟨bx, a, us, rows, c, rfl, _⟩ := h; rfl
  · obtain ⟨bx, a, us, rows, c, rfl, ha, tu, hl, hok, hb, hq⟩ := h
    refine ⟨.ref a, rfl, a, us, rfl, .inl (.inl (.inl ha)), fun l hln => ?_⟩
    have s1 := same_new (o := .lst us) hln
    have e1 : (upd H l (.lst us)) l = some (.lst us) := by simp [upd]
    generalize upd H l (.lst us) = H1 at s1 e1 ⊢
    refine ⟨Nat.zero_le _, fun g hg => ?_⟩
    have s2 := same_new (o := .lst []) hg
    have e2 : (upd H1 g (.lst [])) g = some (.lst []) := by simp [upd]
    have hgl : g ≠ l := fun z => by rw [z, e1] at hg; cases hg
    generalize upd H1 g (.lst []) = H2 at s2 e2 ⊢
    have s02 := s1.trans s2
    have hlb := hb.ne_free hln
    have hgH : H g = none := s1.free hg
    have hgb := hb.ne_free hgH
    refine ⟨_, _, rfl, ?_⟩
    refine ⟨fun m τ H' => ∃ (ls fs : List V) (lr fr : List Rw), τ = [some (.ref bx), some (.ref a), some (.ref l), some (.ref g)] ∧ m = lr.length ∧ Ba bx (rows.length - lr.length) H H' ∧ H' l = some (.lst ls) ∧ TpA H' ls (lr.map bkD) ∧ H' g = some (.lst fs) ∧ TpA H' fs (fr.map bkD) ∧ (lr ++ fr).Perm rows, ⟨rows.length, us, [], rows, [], rfl, rfl, by rw [Nat.sub_self]; exact Ba.of s02, s2 _ _ e1, tu.up s02, e2, .nil, by rw [List.append_nil]⟩, ?_⟩
    rintro m τ H' ⟨ls, fs, lr, fr, rfl, rfl, ba, el, tl, eg, tf, pm⟩
    have hlr : lr.length ≤ rows.length := by have := pm.length_eq; rw [List.length_append] at this; omega
    have hfr : lr.length + fr.length = rows.length := by have := pm.length_eq; rw [List.length_append] at this; omega
    have hlok : ∀ p ∈ lr, OkT p.1 := fun p hp => hok p (pm.mem_iff.mp (List.mem_append_left _ hp))
    refine et_test (G := fun H3 => Same H' H3) (b := !lr.isEmpty) (EvB.to (eb_neNil (ds := lr.map bkD) (fun d hd => ?_) (fun d hd => ?_) (es_var rfl fun H3 s => ⟨ls, s _ _ el, tl.up s⟩)) (by rw [List.isEmpty_map])) H' (Same.refl _) _ fun H3 s3 => ?_
    · obtain ⟨q, hq', rfl⟩ := List.mem_map.mp hd
      exact tx_bk (hlok q hq')
    · obtain ⟨q, hq', rfl⟩ := List.mem_map.mp hd
      exact Nat.le_trans (depth_bk q) (by decide)
    · have ba3 := ba.same s3
      have el3 := s3 _ _ el
      have tl3 := tl.up s3
      have eg3 := s3 _ _ eg
      have tf3 := tf.up s3
      cases hlre : lr with
      | nil =>
        rw [if_neg (by simp)]
        subst hlre
        rw [List.nil_append] at pm
        exact ⟨_, rfl, hq g fs H3 fr hgH (ba3.le (by omega)) eg3 tf3 pm⟩
      | cons p0 lr0 =>
        rw [if_pos (by simp), ← hlre]
        have hpos : 0 < lr.length := by rw [hlre]; exact Nat.succ_pos _
        have hlsl : ls.length = lr.length := by rw [tl.length, List.length_map]
        have hb3 : Bx bx (c + lr.length) H3 := ba3.box _ (hb.le (by omega))
        refine ⟨_, fun σ' H' h => h, ?_⟩
        refine ⟨.ref g, rfl, .inl ⟨rfl, fs, .inl (.inl eg3)⟩, .ref l, rfl, .inl ⟨rfl, ls, .inl (.inl el3)⟩, .ref bx, rfl, .ref l, rfl, l, ls, rfl, .inl (.inl (.inl el3)), bx, (ls.length : Int), c + lr.length - 1, rfl, hb3.le (by omega), by omega, by omega, fun r H4 r0 r1 b4 => ?_⟩
        have el4 := b4.off _ _ hlb el3
        have eg4 := b4.off _ _ hgb eg3
        have t4 := b4.ts hb3
        have tl4 := tl3.mono t4
        have tf4 := tf3.mono t4
        have hlt : r.toNat < lr.length := by omega
        have hg4 : lr[r.toNat]? = some lr[r.toNat] := List.getElem?_eq_getElem hlt
        obtain ⟨u, hu, tU⟩ := tl4.get (i := r.toNat) (d := bkD lr[r.toNat]) (by rw [List.getElem?_map, hg4]; rfl)
        have hsi : seqIndex? r ls.length = some r.toNat := by
          unfold seqIndex?
          simp [r0, r1, show ¬ r < 0 by omega]
        refine ⟨l, ls, r, r.toNat, u, rfl, rfl, el4, by omega, by omega, hsi, hu, ?_⟩
        have t5 : Ts H4 (upd H4 l (.lst (ls.eraseIdx r.toNat))) := Ts.lst el4
        have hfl : fs.length < sizeLine := by
          have := sizeLine_eq
          have h2 : fs.length = fr.length := by rw [tf.length, List.length_map]
          omega
        refine ⟨g, fs, u, rfl, rfl, by rw [upd_ne hgl]; exact eg4, hfl, ?_⟩
        have e6 : (upd H4 l (.lst (ls.eraseIdx r.toNat))) g = some (.lst fs) := by rw [upd_ne hgl]; exact eg4
        have t6 : Ts (upd H4 l (.lst (ls.eraseIdx r.toNat))) (upd (upd H4 l (.lst (ls.eraseIdx r.toNat))) g (.lst (fs ++ [u]))) := Ts.lst e6
        have hel : (lr.eraseIdx r.toNat).length = lr.length - 1 := by rw [List.length_eraseIdx, if_pos hlt]
        refine ⟨lr.length - 1, by omega, ls.eraseIdx r.toNat, fs ++ [u], lr.eraseIdx r.toNat, fr ++ [lr[r.toNat]], rfl, by rw [hel], ?_, ?_, ?_, by simp [upd], ?_, perm_pop pm hg4⟩
        · rw [hel]
          have z := (((ba3.trans b4).mut (o := .lst (ls.eraseIdx r.toNat)) hln hlb).mut (o := .lst (fs ++ [u])) hgH hgb)
          exact z.le (by omega)
        · rw [upd_ne (Ne.symm hgl)]; simp [upd]
        · have z := (TpA.erase r.toNat tl4).mono (t5.trans t6)
          have e9 : (lr.eraseIdx r.toNat).map bkD = (lr.map bkD).eraseIdx r.toNat := by
            rw [List.eraseIdx_eq_take_drop_succ, List.eraseIdx_eq_take_drop_succ, List.map_append, List.map_take, List.map_drop]
          rw [e9]
          exact z
        · rw [List.map_append]
          exact (tf4.snoc tU).mono (t5.trans t6)
end
end K8
end

section
set_option Elab.async false
set_option linter.all false
set_option maxRecDepth 100000
set_option maxHeartbeats 4000000
/-! K81: _law_stand. -/
namespace K8
open PySem PySem.Spec PyProof.Rows L2
/-- a good standing -/
structure Gd (S : List Sh) (n : Nat) : Prop where
  len1 : 1 ≤ S.length
  len4 : S.length ≤ 4
  pos : ∀ s ∈ S, ∀ p ∈ s, 0 < p.2
  ok : OkS S
  rows : (flat S).length ≤ n
  cnt : ∀ k, cnt (flat S) k ≤ 1000
  kinds : (kindsOf S).length ≤ 5
def SmS (ks : List Str) (s : Sh) : Prop := s.length ≤ 6 ∧ (∀ p ∈ s, 0 < p.2) ∧ (∀ p ∈ s, p.1 ∈ ks) ∧ ∀ k, cnt s k ≤ 18
theorem cnt_le_len {rows : List Rw} {m : Int} (hm : 0 ≤ m) (h : ∀ p ∈ rows, 0 ≤ p.2 ∧ p.2 ≤ m) (k : Str) : cnt rows k ≤ rows.length * m := by
  induction rows with
  | nil => simp [cnt_nil]
  | cons p r ih =>
    rw [cnt_cons]
    have h1 := h p List.mem_cons_self
    have h2 := ih fun q hq => h q (List.mem_cons_of_mem _ hq)
    have h3 : ((p :: r).length : Int) * m = r.length * m + m := by
      rw [List.length_cons]
      have : ((r.length + 1 : Nat) : Int) = (r.length : Int) + 1 := by omega
      rw [this, Int.add_mul, Int.one_mul]
    split <;> omega
theorem sms_tog {ks : List Str} {rows : List Rw} (hl : rows.length ≤ 6) (h : ∀ p ∈ rows, p.1 ∈ ks ∧ 1 ≤ p.2 ∧ p.2 ≤ 3) : SmS ks (putTog rows) := by
  refine ⟨Nat.le_trans (putTog_len _) hl, putTog_pos _, fun p hp => ?_, fun k => ?_⟩
  · obtain ⟨q, hq, e⟩ := List.mem_map.mp (putTog_kinds _ p.1 (List.mem_map.mpr ⟨p, hp, rfl⟩))
    rw [← e]
    exact (h q hq).1
  · rw [putTog_cnt k fun p hp => by have := h p hp; omega]
    have := cnt_le_len (m := 3) (by decide) (fun p hp => by have := h p hp; exact ⟨by omega, this.2.2⟩) k (rows := rows)
    omega
theorem flat_cons (s : Sh) (S : List Sh) : flat (s :: S) = s ++ flat S := rfl
theorem gd_of {ks : List Str} {S : List Sh} (h1 : 1 ≤ S.length) (h4 : S.length ≤ 4) (hk : ks.length ≤ 5) (ok : ∀ k ∈ ks, OkT k) (h : ∀ s ∈ S, SmS ks s) : Gd S 24 := by
  have hfl : (flat S).length ≤ S.length * 6 ∧ ∀ k, cnt (flat S) k ≤ S.length * 18 := by
    clear h1 h4
    induction S with
    | nil => exact ⟨Nat.le_refl _, fun k => by show cnt [] k ≤ _; rw [cnt_nil]; simp⟩
    | cons s S ih =>
      obtain ⟨i1, i2⟩ := ih fun t ht => h t (List.mem_cons_of_mem _ ht)
      have hs := h s List.mem_cons_self
      refine ⟨?_, fun k => ?_⟩
      · rw [flat_cons, List.length_append, List.length_cons]
        have := hs.1
        omega
      · rw [flat_cons, cnt_app]
        have a := hs.2.2.2 k
        have b := i2 k
        have : (((s :: S).length : Nat) : Int) * 18 = (S.length : Int) * 18 + 18 := by rw [List.length_cons]; omega
        omega
  refine ⟨h1, h4, fun s hs => (h s hs).2.1, fun s hs p hp => ok _ ((h s hs).2.2.1 p hp), by omega, fun k => by have := hfl.2 k; omega, ?_⟩
  refine Nat.le_trans (nodup_len (kinds_nodup S) fun k hk => ?_) hk
  obtain ⟨s, hs, hm⟩ := mem_kinds.mp hk
  obtain ⟨p, hp, rfl⟩ := List.mem_map.mp hm
  exact (h s hs).2.2.1 p hp
/-- what pairs have been drawn -/
theorem rows_of {H : Hp} {ks : List Str} {acc : List V} (h : ∀ v ∈ acc, ∃ p : Rw, Tp H v (bkD p) ∧ p.1 ∈ ks ∧ 1 ≤ p.2 ∧ p.2 ≤ 3) : ∃ rows : List Rw, TpA H acc (rows.map bkD) ∧ rows.length = acc.length ∧ ∀ p ∈ rows, p.1 ∈ ks ∧ 1 ≤ p.2 ∧ p.2 ≤ 3 := by
  induction acc with
  | nil => exact ⟨[], .nil, rfl, fun p h => (nomatch h)⟩
  | cons v acc ih =>
    obtain ⟨rows, t, e, q⟩ := ih fun u hu => h u (List.mem_cons_of_mem _ hu)
    obtain ⟨p, tp, h1⟩ := h v List.mem_cons_self
    refine ⟨p :: rows, .cons tp t, by rw [List.length_cons, List.length_cons, e], fun z hz => ?_⟩
    rcases List.mem_cons.mp hz with rfl | hz
    · exact h1
    · exact q z hz
theorem tx_sh {s : Sh} (h : ∀ p ∈ s, OkT p.1) : TxOk (shD s) := tx_tup fun d hd => by
  obtain ⟨p, hp, rfl⟩ := List.mem_map.mp hd
  exact tx_bk (h p hp)
theorem depth_sh (s : Sh) : (shD s).depth ≤ 2 := by
  show NestedKey.depthAll _ + 1 ≤ 2
  have := depth_tup_le (ds := s.map bkD) (n := 1) fun d hd => by
    obtain ⟨k, _, rfl⟩ := List.mem_map.mp hd
    exact depth_bk k
  exact Nat.succ_le_succ this
theorem cnt72 {ks : List Str} {S : List Sh} (h4 : S.length ≤ 4) (h : ∀ s ∈ S, SmS ks s) (k : Str) : cnt (flat S) k ≤ 72 := by
  have : cnt (flat S) k ≤ S.length * 18 := by
    clear h4
    induction S with
    | nil => show cnt [] k ≤ _; rw [cnt_nil]; simp
    | cons s S ih =>
      have i2 := ih fun t ht => h t (List.mem_cons_of_mem _ ht)
      have a := (h s List.mem_cons_self).2.2.2 k
      rw [flat_cons, cnt_app]
      have : (((s :: S).length : Nat) : Int) * 18 = (S.length : Int) * 18 + 18 := by rw [List.length_cons]; omega
      omega
  omega
abbrev nStand : List Str := ["_law_box_here", "_law_planks", "_law_rows", "_law_sorts", "_law_most", "_law_names_here", "_law_found", "_law_plank", "_law_lot", "_law_row"]
theorem sc_Stand : FnScope nStand ["_law_box_here", "_law_planks", "_law_rows", "_law_sorts", "_law_most"] (defScope (K81.top 23)) := ⟨rfl, rfl, rfl, by decide +kernel, rfl, by decide +kernel, by decide +kernel⟩
def spStand : Sp := fun vs H Q _ => ∃ (bx : Addr) (c : Nat), vs = [.ref bx, .int 4, .int 6, .int 5, .int 3] ∧ Bx bx (c + 100) H ∧ ∀ v H' (S : List Sh), Ba bx 100 H H' → Tp H' v (stD S) → Gd S 24 → (∀ k, cnt (flat S) k ≤ 500) → Q v H'
section
variable {P : Program} {w : World} {K : PySem.W.Frag} {mg : Str → Option Value} {base : Heap}
theorem cal_Stand (B : Bi mg) (D : DfE K mg "_law_stand" 23) (CLTake : Cal P w K mg base "_law_take" 1 ["_law_box_here", "_law_bound"] spTake) (CLPick : Cal P w K mg base "_law_pick" 2 ["_law_box_here", "_law_things"] spPick) (CLNames : Cal P w K mg base "_law_names" 2 ["_law_box_here", "_law_many"] spNames) (CLPutTogether : Cal P w K mg base "_law_put_together" 1 ["_law_rows"] spTog) :
    Cal P w K mg base "_law_stand" 3 ["_law_box_here", "_law_planks", "_law_rows", "_law_sorts", "_law_most"] spStand := by
  obtain ⟨f, fd, D⟩ := D
  have nd := sc_Stand.nd
  refine D.cal (D.F.ok sc_Stand (fun vs H Q E h => ?_) fun cdv A outer s H vs Q E hr h => ⟨_, PSs.nox
    ((pss_cons (ps_asg (pe_tup (pa_cons (pe_callC CLNames (hr.mono (by decide)) (pa_cons (pv 0) (pa_cons (pe_op op_add pe_int (pe_callC CLTake (hr.mono (by decide)) (pa_cons (pv 0) (pa_cons (pv 3) pa_nil)))) pa_nil))) (pa_cons (pe_lst pa_nil) pa_nil))) (pg_tup rfl (pgs_cons (pg_name (i := 5) nd rfl (by first | exact Or.inl rfl | exact Or.inr rfl)) (pgs_cons (pg_name (i := 6) nd rfl (by first | exact Or.inl rfl | exact Or.inr rfl)) pgs_nil))))
      (pss_cons (ps_for PassesOwn.never rfl (pi_range1 rfl B.range (pa_cons (pe_op op_add pe_int (pe_callC CLTake (hr.mono (by decide)) (pa_cons (pv 0) (pa_cons (pv 1) pa_nil)))) pa_nil)) (pg_name (i := 7) nd rfl (by first | exact Or.inl rfl | exact Or.inr rfl)) (pss_cons (ps_setLc (i := 8) (wi := _) (g := (gName 9)) (tt := tYes) (te := _) rfl nd rfl rfl (sw_true rfl rfl rfl (by kernel_rfl)) (pi_range1 rfl B.range (pa_cons (pe_callC CLTake (hr.mono (by decide)) (pa_cons (pv 0) (pa_cons (pe_op op_add (pv 2) pe_int) pa_nil))) pa_nil)) (blkOk_by (own := [("_law_row", 9)]) (by kernel_rfl)) (fun _ _ _ _ _ => (pg_name (i := 9) nd rfl (by first | exact Or.inl rfl | exact Or.inr rfl))) (fun _ _ _ _ _ => pts_nil) (fun _ _ _ _ _ => (pe_tup (pa_cons (pe_callC CLPick (hr.mono (by decide)) (pa_cons (pv 0) (pa_cons (pv 5) pa_nil))) (pa_cons (pe_op op_add pe_int (pe_callC CLTake (hr.mono (by decide)) (pa_cons (pv 0) (pa_cons (pv 4) pa_nil)))) pa_nil)))))
      (pss_one (ps_expr (pe_bm PySem.F.plainAttrs_list PySem.F.slot_list_append PySem.F.type_list_append mt_append (pv 6) (pa_cons (pe_callC CLPutTogether (hr.mono (by decide)) (pa_cons (pv 8) pa_nil)) pa_nil))))))
      (pss_cons (ps_if (pt_not (pt_val (pe_callB (cr_any rfl) rfl B.any boot_any (pa_cons (pe_lc (wi := (iList K _)) (g := (gName 7)) (tt := tYes) (te := (tOp (rNeD K) _ _)) rfl nd (pi_list (pv 6)) (blkOk_by (own := [("_law_plank", 7)]) (by kernel_rfl)) (fun _ _ _ _ _ => (pg_name (i := 7) nd rfl (by first | exact Or.inl rfl | exact Or.inr rfl))) (fun _ _ _ _ _ => pts_nil) (fun _ _ _ _ _ => (pe_cmpR (op_neD hr.units) (pv 7) (pe_tup pa_nil) (nomark _)))) pa_nil)))) (pss_one (ps_asg (pe_tup (pa_cons (pe_tup (pa_cons (pe_ix ix_list (pv 5) pe_int (fun _ _ => rfl)) (pa_cons (pe_op op_add pe_int (pe_callC CLTake (hr.mono (by decide)) (pa_cons (pv 0) (pa_cons (pv 4) pa_nil)))) pa_nil))) pa_nil)) (pg_sub (pv 6) pe_int set_list))) pss_nil)
      (pss_one (ps_ret (pe_callTy call_tuple_of rfl B.tuple boot_tuple (pa_cons (pv 6) pa_nil)))))))), ?_⟩)
    (fun kV doc pm an cdv ct us hl => match us, hl with | [_, _, _, _, _], _ => rfl)
  · obtain ⟨bx, c, rfl, _⟩ := h; rfl
  · obtain ⟨bx, c, rfl, hb, hq⟩ := h
    -- names
    refine ⟨.ref bx, rfl, .ref bx, rfl, .int 5, rfl, bx, 5, c + 99, rfl, hb.le (by omega), by decide, by decide, fun r0 H1 q0 q1 b1 => ?_⟩
    obtain ⟨r0, rfl⟩ := Int.eq_ofNat_of_zero_le q0
    have hr0 : r0 < 5 := by omega
    refine ⟨1, (r0 : Nat), rfl, rfl, ?_⟩
    have hb1 : Bx bx (c + 99) H1 := b1.box _ (hb.le (by omega))
    refine ⟨bx, r0 + 1, c + 59, by show [V.ref bx, V.int ((1 : Int) + (r0 : Nat))] = _; rw [show (1 : Int) + (r0 : Nat) = ((r0 + 1 : Nat) : Int) by omega], by omega, hb1.le (by omega), fun na nus H2 ks hna b2 en tn hkl hkok => ?_⟩
    have b02 := b1.trans b2
    have hnab := hb1.ne_free hna
    have hb2 : Bx bx (c + 59) H2 := b02.box _ (hb.le (by omega))
    refine ⟨Nat.zero_le _, fun l hl => ?_⟩
    have hlb := hb2.ne_free hl
    have hlna : l ≠ na := fun z => by rw [z, en] at hl; cases hl
    have s3 := same_new (o := .lst []) hl
    have e3 : (upd H2 l (.lst [])) l = some (.lst []) := by simp [upd]
    generalize upd H2 l (.lst []) = H3 at s3 e3 ⊢
    refine ⟨(by show 2 ≤ sizeLine; decide), fun t ht => ?_⟩
    have s4 := same_new (o := .tup [.ref na, .ref l]) ht
    refine ⟨t, [.ref na, .ref l], rfl, .inl (.inl (by simp [upd])), rfl, _, _, rfl, _, _, rfl, rfl, ?_⟩
    refine q_nx ?_
    show tSeq _ _ _ _ (upd H3 t (.tup [.ref na, .ref l]))
    generalize upd H3 t (.tup [.ref na, .ref l]) = H4 at s4 ⊢
    have b04 : Ba bx 41 H H4 := (b02.same s3).same s4
    have e4 : H4 l = some (.lst []) := s4 _ _ e3
    have en4 : H4 na = some (.lst nus) := s4 _ _ (s3 _ _ en)
    have tn4 : TpA H4 nus (ks.map NestedKey.text) := (tn.up s3).up s4
    have hb4 : Bx bx (c + 59) H4 := (hb2.up s3).up s4
    have hlH : H l = none := b02.free hl hlb
    -- planks
    refine tFor_rng (q_op ?_)
    refine ⟨.ref bx, rfl, .int 4, rfl, bx, 4, c + 58, rfl, hb4.le (by omega), by decide, by decide, fun r4 H5 q4 q5 b5 => ?_⟩
    obtain ⟨r4, rfl⟩ := Int.eq_ofNat_of_zero_le q4
    have hr4 : r4 < 4 := by omega
    refine ⟨1, (r4 : Nat), rfl, rfl, (1 : Int) + (r4 : Nat), rfl, by omega, by omega, ?_⟩
    rw [show ((1 : Int) + (r4 : Nat)).toNat = r4 + 1 by omega]
    have b05 := b04.trans b5
    have t45 := b5.ts hb4
    refine fo_rng (fun i τ H' => ∃ (fs : List V) (S : List Sh) (o7 o8 o9 : Option V), τ = [some (.ref bx), some (.int 4), some (.int 6), some (.int 5), some (.int 3), some (.ref na), some (.ref l), o7, o8, o9] ∧ Ba bx (42 + i * 13) H H' ∧ Ts H5 H' ∧ H' na = some (.lst nus) ∧ H' l = some (.lst fs) ∧ TpA H' fs (S.map shD) ∧ S.length = i ∧ ∀ s ∈ S, SmS ks s) ?_ ?_ ?_
    · exact ⟨[], [], none, none, none, rfl, b05.le (by omega), Ts.of (Same.refl _), b5.off _ _ hnab en4, b5.off _ _ hlb e4, .nil, rfl, fun s h => (nomatch h)⟩
    · rintro i τ H' hi ⟨fs, S, o7, o8, o9, rfl, ba, ts, en', el, tf, hSl, hS⟩
      have hb' : Bx bx (c + (3 - i) * 13 + 19) H' := ba.box _ (hb.le (by omega))
      refine q_seqAsg (tLc_rng ?_)
      refine ⟨.ref bx, rfl, .int 6, rfl, 6, 1, rfl, rfl, bx, 7, c + (3 - i) * 13 + 18, rfl, hb'.le (by omega), by decide, by decide, fun r7 H6 q7 q8 b6 => ?_⟩
      obtain ⟨r7, rfl⟩ := Int.eq_ofNat_of_zero_le q7
      have hr7 : r7 < 7 := by omega
      refine ⟨(r7 : Nat), rfl, by omega, by omega, ?_⟩
      rw [Int.toNat_natCast]
      have hb6 : Bx bx (c + (3 - i) * 13 + 18) H6 := b6.box _ (hb'.le (by omega))
      have t6 := b6.ts hb'
      have en6 := b6.off _ _ hnab en'
      have tn6 : TpA H6 nus (ks.map NestedKey.text) := (tn4.mono (t45.trans ts)).mono t6
      refine lc_rngB (R := fun v H => ∃ p : Rw, Tp H v (bkD p) ∧ p.1 ∈ ks ∧ 1 ≤ p.2 ∧ p.2 ≤ 3) (m := 2) (n := r7) (c := c + (3 - i) * 13 + (18 - r7 * 2)) (show (9 : Nat) ∈ [9] by decide) (fun v H H' ⟨p, h1, h2⟩ t => ⟨p, h1.mono t, h2⟩) (hb6.le (by omega)) (by omega) ?_ ?_
      · intro j hj H7 c7 off7 hb7 Q7 hq7
        have en7 := off7 _ _ hnab en6
        have t67 : TpA H7 nus (ks.map NestedKey.text) := tn6.mono fun b xs r => by
          have hne := hb6.ne_tup r
          rcases r with r | ⟨o, r⟩
          · exact .inl (off7 _ _ hne r)
          · exact .inr ⟨o, off7 _ _ hne r⟩
        refine ⟨.ref bx, rfl, .ref na, rfl, bx, na, c7 + 1, nus, ks.map NestedKey.text, rfl, hnab, hb7.le (by omega), en7, t67, by rw [List.length_map]; omega, by rw [List.length_map]; omega, fun kv kd H8 hkd b8 tk => ?_⟩
        obtain ⟨k, hk, rfl⟩ := List.mem_map.mp hkd
        have hb8 : Bx bx (c7 + 1) H8 := b8.box _ (hb7.le (by omega))
        refine ⟨.ref bx, rfl, .int 3, rfl, bx, 3, c7, rfl, hb8, by decide, by decide, fun r3 H9 q3 q9 b9 => ?_⟩
        obtain ⟨r3, rfl⟩ := Int.eq_ofNat_of_zero_le q3
        have hr3 : r3 < 3 := by omega
        refine ⟨1, (r3 : Nat), rfl, rfl, (by show 2 ≤ sizeLine; decide), fun tt htt => ?_⟩
        have sn := same_new (o := .tup [kv, .int ((1 : Int) + (r3 : Nat))]) htt
        have tkv := (tk.mono (b9.ts hb8)).txt_inv
        refine hq7 _ _ ((b8.trans b9).same sn) ⟨(k, (1 : Int) + (r3 : Nat)), tp_new htt (.cons (tk.mono (b9.ts hb8)) (.cons (.num _) .nil)), hk, by show (1 : Int) ≤ 1 + (r3 : Nat); omega, by show (1 : Int) + (r3 : Nat) ≤ 3; omega⟩
      · intro lo acc H7 hlo b7 e7 hl7 hR
        obtain ⟨rows, tr, hrl, hrows⟩ := rows_of hR
        refine q_gu ?_
        have b07 : Ba bx (42 + i * 13 + (1 + r7 * 2)) H H7 := ba.trans (b6.trans b7)
        have t57 : Ts H5 H7 := (ts.trans t6).trans (b7.ts hb6)
        have el7 := b7.off _ _ hlb (b6.off _ _ hlb el)
        have en7 := b7.off _ _ hnab en6
        have tf7 := (tf.mono t6).mono (b7.ts hb6)
        refine q_append (G := fun H8 => Same H7 H8) (d := shD (putTog rows)) (us := fs) rfl (ed_tog (rows := rows) (es_var rfl fun H8 s => ⟨acc, s _ _ e7, tr.up s⟩) (by omega) fun p hp => hkok _ (hrows p hp).1) (Same.refl H7) el7 (by rw [tf.length, List.length_map]; omega) fun u H8 s8 t8 => ?_
        have e8 := s8 _ _ el7
        refine ⟨fs ++ [u], S ++ [putTog rows], _, _, _, rfl, ((b07.same s8).mut hlH hlb).le (by omega), (t57.trans (Ts.of s8)).trans (Ts.lst e8), by rw [upd_ne (Ne.symm hlna)]; exact s8 _ _ en7, by simp [upd], ?_, by rw [List.length_append, hSl]; rfl, fun s hs => ?_⟩
        · rw [List.map_append]
          exact ((tf7.up s8).snoc t8).mono (Ts.lst e8)
        · rcases List.mem_append.mp hs with hs | hs
          · exact hS s hs
          · rw [List.mem_singleton.mp hs]
            exact sms_tog (by omega) hrows
    · rintro τ H' ⟨fs, S, o7, o8, o9, rfl, ba, ts, en', el, tf, hSl, hS⟩
      have hb' : Bx bx (c + 5) H' := ba.box _ (hb.le (by omega))
      refine q_nx ?_
      have hfl : fs.length = S.length := by rw [tf.length, List.length_map]
      refine q_if (G := fun H6 => Same H' H6) (b := !((S.map fun s => !decide (s = [])).any id)) (et_not (et_b (eb_anyV (bs := S.map fun s => !decide (s = [])) ?_))) (Same.refl H') (fun hb1 H6 s6 => ?_) fun hb1 H6 s6 => ?_
      · have z := ev_lc (G := fun H6 => Same H' H6) (σ := [some (.ref bx), some (.int 4), some (.int 6), some (.int 5), some (.int 3), some (.ref na), some (.ref l), o7, o8, o9]) (xs := S) (mk := shD) (wi := iList K (tVar 6)) (g := gName 7) (tt := tYes) (te := tOp (rNeD K) (tVar 7) (tTup tNil)) (vs := [7]) (fun s => V.bl (!decide (s = []))) (ei_listV (a := l) (xs := fs) (er_var rfl fun H6 s => ⟨rfl, s _ _ el, tf.up s⟩)) (by omega) (fun H6 s6 s hs x Hx sx tx => eg_name ⟨Same.refl _, rfl, et_yes, ?_⟩)
        · rw [List.map_map]
          exact z
        · refine EvB.to (eb_op (ed_var rfl fun H7 s => tx.up s) (ed_tup ea_nil (Nat.zero_le _)) (rb_neQ (tx_sh fun p hp => hkok _ ((hS s hs).2.2.1 p hp)) (tx_tup fun d hd => (nomatch hd)) (Nat.le_trans (depth_sh s) (by decide)) (Nat.le_of_ble_eq_true rfl))) ?_
          congr 1
          rw [decide_eq_decide]
          unfold shD
          constructor
          · intro e
            exact List.map_eq_nil_iff.mp (NestedKey.tup.inj e)
          · rintro rfl; rfl
      · -- all empty: one row for the first plank
        have el6 := s6 _ _ el
        have en6 := s6 _ _ en'
        have tn6 : TpA H6 nus (ks.map NestedKey.text) := ((tn4.mono (t45.trans ts)).up s6)
        obtain ⟨k0, ks', hks⟩ : ∃ k0 ks', ks = k0 :: ks' := by
          cases ks with
          | nil => rw [List.length_nil] at hkl; omega
          | cons k0 ks' => exact ⟨k0, ks', rfl⟩
        refine ed_ixL (G := fun H7 => Same H6 H7) (d := .text k0) (es_var (ds := ks.map NestedKey.text) rfl fun H7 s => ⟨nus, s _ _ en6, tn6.up s⟩) ed_int (by rw [hks]; exact atI_nat (j := 0) rfl) H6 (Same.refl _) _ fun kv H7 s7 tk => ?_
        cases tk
        have hb7 : Bx bx (c + 5) H7 := (hb'.up s6).up s7
        refine ⟨.ref bx, rfl, .int 3, rfl, bx, 3, c + 4, rfl, hb7.le (by omega), by decide, by decide, fun r3 H8 q3 q9 b8 => ?_⟩
        obtain ⟨r3, rfl⟩ := Int.eq_ofNat_of_zero_le q3
        have hr3 : r3 < 3 := by omega
        refine ⟨1, (r3 : Nat), rfl, rfl, (by show 2 ≤ sizeLine; decide), fun t1 ht1 => ⟨(by show 1 ≤ sizeLine; decide), fun t2 ht2 => ?_⟩⟩
        have sn1 := same_new (o := .tup [.str k0, .int ((1 : Int) + (r3 : Nat))]) ht1
        have tp1 : Tp (upd H8 t1 (.tup [.str k0, .int ((1 : Int) + (r3 : Nat))])) (.ref t1) (bkD (k0, (1 : Int) + (r3 : Nat))) := tp_new ht1 (.cons (.txt _) (.cons (.num _) .nil))
        generalize upd H8 t1 (.tup [.str k0, .int ((1 : Int) + (r3 : Nat))]) = H9 at sn1 tp1 ht2 ⊢
        have sn2 := same_new (o := .tup [.ref t1]) ht2
        have tp2 : Tp (upd H9 t2 (.tup [.ref t1])) (.ref t2) (shD [(k0, (1 : Int) + (r3 : Nat))]) := tp_new ht2 (.cons tp1 .nil)
        generalize upd H9 t2 (.tup [.ref t1]) = H10 at sn2 tp2 ⊢
        have s8a := sn1.trans sn2
        have el10 : H10 l = some (.lst fs) := s8a _ _ (b8.off _ _ hlb (s7 _ _ el6))
        have tf10 : TpA H10 fs (S.map shD) := (((tf.up s6).up s7).mono (b8.ts hb7)).up s8a
        have hS0 : 0 < fs.length := by omega
        have hix : ixN fs.length 0 = some 0 := by
          unfold ixN
          rw [if_pos (by decide), if_pos (by omega)]
          rfl
        refine ⟨.ref l, rfl, l, fs, 0, 0, rfl, rfl, el10, hix, ?_⟩
        have hl10 : Ts H10 (upd H10 l (.lst (fs.set 0 (.ref t2)))) := Ts.lst el10
        have tf11 : TpA (upd H10 l (.lst (fs.set 0 (.ref t2)))) (fs.set 0 (.ref t2)) ((S.set 0 [(k0, (1 : Int) + (r3 : Nat))]).map shD) := by
          rw [List.map_set]
          exact (TpA.set 0 tp2 tf10).mono hl10
        have b010 : Ba bx 100 H (upd H10 l (.lst (fs.set 0 (.ref t2)))) := ((((ba.same (s6.trans s7)).trans b8).same s8a).mut hlH hlb).le (by omega)
        have e11 : (upd H10 l (.lst (fs.set 0 (.ref t2)))) l = some (.lst (fs.set 0 (.ref t2))) := by simp [upd]
        generalize upd H10 l (.lst (fs.set 0 (.ref t2))) = H11 at tf11 b010 e11 ⊢
        have hS2 : ∀ s ∈ S.set 0 [(k0, (1 : Int) + (r3 : Nat))], SmS ks s := fun s hs => by
          rcases List.mem_or_eq_of_mem_set hs with hs | rfl
          · exact hS s hs
          · refine ⟨show 1 ≤ 6 by decide, fun p hp => ?_, fun p hp => ?_, fun k => ?_⟩
            · rw [List.mem_singleton.mp hp]; show (0 : Int) < 1 + (r3 : Nat); omega
            · rw [List.mem_singleton.mp hp, hks]; exact List.mem_cons_self
            · rw [cnt_one]
              split
              · show (1 : Int) + (r3 : Nat) ≤ 18; omega
              · decide
        have hl2 : (S.set 0 [(k0, (1 : Int) + (r3 : Nat))]).length = S.length := List.length_set
        refine q_nx ?_
        refine q_retD (G := fun H12 => Same H11 H12) (d := stD (S.set 0 [(k0, (1 : Int) + (r3 : Nat))])) (ed_tupS (es_var rfl fun H12 s => ⟨_, s _ _ e11, tf11.up s⟩)) (Same.refl H11) fun v H12 s12 t12 => hq v H12 _ (b010.same s12) t12 (gd_of (by omega) (by omega) (by omega) hkok hS2) fun k => by have := cnt72 (by omega) hS2 k; omega
      · refine q_nx ?_
        refine q_retD (G := fun H12 => Same H6 H12) (d := stD S) (ed_tupS (es_var rfl fun H12 s => ⟨fs, s _ _ (s6 _ _ el), (tf.up s6).up s⟩)) (Same.refl H6) fun v H12 s12 t12 => hq v H12 S (((ba.same s6).same s12).le (by omega)) t12 (gd_of (by omega) (by omega) (by omega) hkok hS) fun k => by have := cnt72 (by omega) hS k; omega
end
end K8
end

section
set_option Elab.async false
set_option linter.all false
/-! K81: what a way makes of a standing, plainly. -/
namespace K8
open PySem
theorem get_mod {α : Type} (f : α → α) (l : List α) (i j : Nat) : (l.modify i f)[j]? = if i = j then l[j]?.map f else l[j]? := by
  rw [List.getElem?_modify]
  by_cases h : i = j
  · simp only [if_pos h]; cases l[j]? <;> rfl
  · simp only [if_neg h]; cases l[j]? <;> rfl
theorem cnt_modify (x : Int) (k : Str) : ∀ (l : List Rw) (j : Nat), cnt (l.modify j fun q => (q.1, q.2 + x)) k = cnt l k + (match l[j]? with | some q => if q.1 = k then x else 0 | none => 0)
  | [], j => by cases j <;> simp [List.modify, cnt_nil]
  | q :: l, 0 => by
    rw [List.modify_zero_cons, cnt_cons, cnt_cons]
    simp only [List.getElem?_cons_zero]
    by_cases h : q.1 = k
    · simp only [if_pos h]; omega
    · simp only [if_neg h]; omega
  | q :: l, j + 1 => by
    rw [List.modify_succ_cons, cnt_cons, cnt_cons, cnt_modify x k l j]
    simp only [List.getElem?_cons_succ]
    omega
theorem cnt_flat_modify (f : Sh → Sh) (k : Str) : ∀ (S : List Sh) (i : Nat), cnt (flat (S.modify i f)) k = cnt (flat S) k + (match S[i]? with | some s => cnt (f s) k - cnt s k | none => 0)
  | [], i => by cases i <;> simp [List.modify]
  | s :: S, 0 => by
    rw [List.modify_zero_cons, flat_cons, flat_cons, cnt_app, cnt_app]
    show cnt (f s) k + cnt (flat S) k = cnt s k + cnt (flat S) k + (cnt (f s) k - cnt s k)
    generalize cnt (f s) k = x
    generalize cnt s k = y
    generalize cnt (flat S) k = z
    omega
  | s :: S, i + 1 => by
    rw [List.modify_succ_cons, flat_cons, flat_cons, cnt_app, cnt_app, cnt_flat_modify f k S i]
    simp only [List.getElem?_cons_succ]
    omega
def addAt (S : List Sh) (p : Sp2) (x : Int) : List Sh := S.modify p.1 fun s => s.modify p.2 fun q => (q.1, q.2 + x)
theorem cnt_addAt {S : List Sh} {p : Sp2} {k : Str} {n : Int} (h : rowAt S p = some (k, n)) (x : Int) (z : Str) : cnt (flat (addAt S p x)) z = cnt (flat S) z + (if k = z then x else 0) := by
  unfold rowAt at h
  unfold addAt
  rw [cnt_flat_modify]
  cases e : S[p.1]? with
  | none => rw [e] at h; cases h
  | some s =>
    rw [e] at h
    have h' : s[p.2]? = some (k, n) := h
    simp only
    rw [cnt_modify, h']
    simp only
    omega
theorem rowAt_addAt {S : List Sh} {p q : Sp2} {x : Int} (h : p ≠ q) : rowAt (addAt S p x) q = rowAt S q := by
  unfold rowAt addAt
  rw [get_mod]
  by_cases e : p.1 = q.1
  · rw [if_pos e]
    cases S[q.1]? with
    | none => rfl
    | some s =>
      show (s.modify p.2 _)[q.2]? = s[q.2]?
      rw [get_mod, if_neg (fun e2 => h (Prod.ext e e2))]
  · rw [if_neg e]
theorem more_get (m : Sp2 → Int) (sh : Sh) (i j : Nat) : (moreRows m (sh, i))[j]? = sh[j]?.map fun q => (q.1, q.2 + m (i, j)) := by
  unfold moreRows
  rw [List.getElem?_map, List.getElem?_zipIdx]
  cases sh[j]? <;> simp
theorem more_modify (S : List Sh) (s d : Sp2) (n : Int) (h : s ≠ d) : S.zipIdx.map (moreRows (mvM s d n)) = addAt (addAt S s (0 - n)) d n := by
  refine List.ext_getElem? fun i => ?_
  unfold addAt
  rw [List.getElem?_map, List.getElem?_zipIdx, get_mod, get_mod]
  cases S[i]? with
  | none => simp
  | some sh =>
    have hA : ∀ (c : Prop) [Decidable c] (f : Sh → Sh) (t : Sh), (if c then (some t).map f else some t) = some (if c then f t else t) := fun c _ f t => by split <;> rfl
    rw [hA, hA]
    simp only [Option.map_some, Nat.zero_add, Option.some.injEq]
    refine List.ext_getElem? fun j => ?_
    rw [more_get]
    have hB : ∀ (c : Prop) [Decidable c] (t u : Sh), (if c then t else u)[j]? = if c then t[j]? else u[j]? := fun c _ t u => by split <;> rfl
    rw [hB]
    simp only [get_mod, hB]
    cases sh[j]? with
    | none => simp
    | some q =>
      have hs : ((i, j) = s) ↔ (s.1 = i ∧ s.2 = j) := ⟨fun e => by rw [← e]; exact ⟨rfl, rfl⟩, fun e => Prod.ext e.1.symm e.2.symm⟩
      have hd : ((i, j) = d) ↔ (d.1 = i ∧ d.2 = j) := ⟨fun e => by rw [← e]; exact ⟨rfl, rfl⟩, fun e => Prod.ext e.1.symm e.2.symm⟩
      have hno : ¬ ((s.1 = i ∧ s.2 = j) ∧ (d.1 = i ∧ d.2 = j)) := fun e => h (Prod.ext (e.1.1.trans e.2.1.symm) (e.1.2.trans e.2.2.symm))
      unfold mvM
      simp only [hs, hd]
      by_cases a1 : s.1 = i <;> by_cases a2 : s.2 = j <;> by_cases b1 : d.1 = i <;> by_cases b2 : d.2 = j <;> simp_all
theorem cnt_flat_put {f : Sh × Nat → List Rw} (l : List (Sh × Nat)) (h : ∀ p ∈ l, ∀ q ∈ f p, 0 ≤ q.2) (k : Str) : cnt (flat (l.map fun p => putTog (f p))) k = cnt (flat (l.map f)) k := by
  induction l with
  | nil => rfl
  | cons p l ih =>
    rw [List.map_cons, List.map_cons, flat_cons, flat_cons, cnt_app, cnt_app, putTog_cnt k (h p List.mem_cons_self), ih fun q hq => h q (List.mem_cons_of_mem _ hq)]
theorem len_flat_put {f : Sh × Nat → List Rw} (l : List (Sh × Nat)) (h : ∀ p ∈ l, (f p).length ≤ p.1.length) : (flat (l.map fun p => putTog (f p))).length ≤ (l.flatMap fun p => p.1).length := by
  induction l with
  | nil => exact Nat.le_refl _
  | cons p l ih =>
    rw [List.map_cons, flat_cons, List.flatMap_cons, List.length_append, List.length_append]
    have h1 := putTog_len (f p)
    have h2 := h p List.mem_cons_self
    have h3 := ih fun q hq => h q (List.mem_cons_of_mem _ hq)
    omega
theorem mem_flat {S : List Sh} {k : Str} : k ∈ kindsOf S ↔ k ∈ (flat S).map (·.1) := by
  rw [mem_kinds]
  unfold flat
  rw [List.map_flatMap, List.mem_flatMap]
/-- what leads from S to T keeps the books -/
structure Kept (S T : List Sh) : Prop where
  len : T.length = S.length
  cnt : ∀ k, cnt (flat T) k = cnt (flat S) k
theorem Kept.refl (S : List Sh) : Kept S S := ⟨rfl, fun _ => rfl⟩
theorem Kept.trans {S T U : List Sh} (a : Kept S T) (b : Kept T U) : Kept S U := ⟨b.len.trans a.len, fun k => (b.cnt k).trans (a.cnt k)⟩
theorem pos_flat {S : List Sh} (h : ∀ s ∈ S, ∀ p ∈ s, 0 < p.2) : ∀ p ∈ flat S, 0 < p.2 := fun p hp => by
  obtain ⟨s, hs, hp⟩ := List.mem_flatMap.mp hp
  exact h s hs p hp
/-- kept books, no empty rows: the same kinds -/
theorem kinds_kept {S T : List Sh} (hS : ∀ s ∈ S, ∀ p ∈ s, 0 < p.2) (hT : ∀ s ∈ T, ∀ p ∈ s, 0 < p.2) (k : Kept S T) : kindsOf T = kindsOf S := by
  have h : ∀ z, z ∈ kindsOf T ↔ z ∈ kindsOf S := fun z => by
    rw [mem_flat, mem_flat, ← cnt_pos (pos_flat hT), ← cnt_pos (pos_flat hS), k.cnt]
  have pm : (kindsOf T).Perm (kindsOf S) := (List.perm_ext_iff_of_nodup (kinds_nodup T) (kinds_nodup S)).mpr h
  have e := srtS_can pm
  unfold kindsOf at e ⊢
  rw [KSrt.idem, KSrt.idem] at e
  exact e
theorem gd_kept {S T : List Sh} {n m : Nat} (g : Gd S n) (k : Kept S T) (hT : ∀ s ∈ T, ∀ p ∈ s, 0 < p.2) (hm : (flat T).length ≤ m) : Gd T m := by
  have hk := kinds_kept g.pos hT k
  refine ⟨by rw [k.len]; exact g.len1, by rw [k.len]; exact g.len4, hT, fun s hs p hp => ?_, hm, fun z => by rw [k.cnt]; exact g.cnt z, by rw [hk]; exact g.kinds⟩
  have h1 : p.1 ∈ kindsOf T := mem_kinds.mpr ⟨s, hs, List.mem_map.mpr ⟨p, hp, rfl⟩⟩
  rw [hk] at h1
  obtain ⟨s', hs', hp'⟩ := mem_kinds.mp h1
  obtain ⟨p', hp', e⟩ := List.mem_map.mp hp'
  rw [← e]
  exact g.ok s' hs' p' hp'
theorem kept_move {S : List Sh} {s d : Sp2} {k : Str} {n m n' : Int} (hS : ∀ t ∈ S, ∀ p ∈ t, 0 < p.2) (hne : s ≠ d) (h1 : rowAt S s = some (k, n)) (h2 : rowAt S d = some (k, m)) (hn : 1 ≤ n') (hn2 : n' ≤ n) :
    Kept S (withSt S (mvM s d n')) ∧ (∀ t ∈ withSt S (mvM s d n'), ∀ p ∈ t, 0 < p.2) ∧ (flat (withSt S (mvM s d n'))).length ≤ (flat S).length := by
  refine ⟨⟨by unfold withSt; rw [List.length_map, List.length_zipIdx], fun z => ?_⟩, fun t ht p hp => ?_, ?_⟩
  · unfold withSt
    rw [cnt_flat_put _ ?_, more_modify _ _ _ _ hne, cnt_addAt (by rw [rowAt_addAt hne]; exact h2), cnt_addAt h1]
    · split <;> omega
    · rintro ⟨sh, a⟩ hp q hq
      obtain ⟨g1, g2⟩ := zipIdx_mem_sh hp
      unfold moreRows at hq
      obtain ⟨⟨q0, j⟩, hq0, rfl⟩ := List.mem_map.mp hq
      have hj := List.mem_zipIdx_iff_getElem?.mp hq0
      have hpos := hS sh g1 q0 (List.mem_of_getElem? hj)
      show 0 ≤ q0.2 + mvM s d n' (a, j)
      unfold mvM
      by_cases e : (a, j) = s
      · rw [if_pos e]
        have : rowAt S (a, j) = some q0 := by unfold rowAt; rw [show S[(a, j).1]? = some sh from g2]; exact hj
        rw [e, h1] at this
        have := Option.some.inj this
        rw [← this]
        show 0 ≤ n + (0 - n')
        omega
      · rw [if_neg e]
        split <;> omega
  · unfold withSt at ht
    obtain ⟨x, _, rfl⟩ := List.mem_map.mp ht
    exact putTog_pos _ p hp
  · unfold withSt
    have := len_flat_put (f := moreRows (mvM s d n')) S.zipIdx fun p _ => by rw [more_len]; exact Nat.le_refl _
    rwa [zip_flat] at this
theorem cnt_without (k z : Str) (s : Sh) (h : ∀ p ∈ s, 0 < p.2) : cnt (putTog (s.filter fun p => !decide (p.1 = k))) z = if z = k then 0 else cnt s z := by
  rw [putTog_cnt z fun p hp => Int.le_of_lt (h p (List.mem_filter.mp hp).1)]
  induction s with
  | nil => rw [List.filter_nil, cnt_nil]; split <;> rfl
  | cons p s ih =>
    have ih := ih fun q hq => h q (List.mem_cons_of_mem _ hq)
    rw [List.filter_cons, cnt_cons]
    by_cases e : p.1 = k
    · rw [if_neg (by simp [e]), ih]
      by_cases hz : z = k
      · rw [if_pos hz, if_pos hz]
      · rw [if_neg hz, if_neg hz, if_neg (fun q => hz (by rw [← q, e]))]; omega
    · rw [if_pos (by simp [e]), cnt_cons, ih]
      by_cases hz : z = k
      · rw [if_pos hz, if_pos hz, if_neg (fun q => e (by rw [q, hz]))]; omega
      · rw [if_neg hz, if_neg hz]
theorem cnt_flat_without (k z : Str) (S : List Sh) (h : ∀ s ∈ S, ∀ p ∈ s, 0 < p.2) : cnt (flat (without S k)) z = if z = k then 0 else cnt (flat S) z := by
  induction S with
  | nil => show cnt [] z = if z = k then 0 else cnt [] z; rw [cnt_nil]; split <;> rfl
  | cons s S ih =>
    have ih := ih fun t ht => h t (List.mem_cons_of_mem _ ht)
    show cnt (putTog _ ++ flat (without S k)) z = _
    rw [flat_cons, cnt_app, cnt_app, ih, cnt_without k z s (h s List.mem_cons_self)]
    split <;> omega
theorem len_without (k : Str) (S : List Sh) : (flat (without S k)).length ≤ (flat S).length := by
  induction S with
  | nil => exact Nat.le_refl _
  | cons s S ih =>
    show (putTog _ ++ flat (without S k)).length ≤ _
    rw [flat_cons, List.length_append, List.length_append]
    have h1 := putTog_len (s.filter fun p => !decide (p.1 = k))
    have h2 := List.length_filter_le (fun p : Rw => !decide (p.1 = k)) s
    omega
theorem flat_app (A B : List Sh) : flat (A ++ B) = flat A ++ flat B := by unfold flat; rw [List.flatMap_append]
theorem flat_end {W : List Sh} {a : Nat} (ha : a < W.length) (x : Rw) : (flat (W.take a ++ [W[a]?.getD [] ++ [x]] ++ W.drop (a + 1))).Perm (flat W ++ [x]) := by
  have e : W = W.take a ++ W[a] :: W.drop (a + 1) := by rw [← List.drop_eq_getElem_cons ha, List.take_append_drop]
  have h2 : flat W = flat (W.take a) ++ (W[a] ++ flat (W.drop (a + 1))) := by
    conv => lhs; rw [e]
    rw [flat_app, flat_cons]
  rw [h2, flat_app, flat_app, List.getElem?_eq_getElem ha, Option.getD_some]
  have h3 : flat [W[a] ++ [x]] = W[a] ++ [x] := by rw [flat_cons]; exact List.append_nil _
  rw [h3]
  simp only [List.append_assoc]
  refine List.Perm.append_left _ (List.Perm.append_left _ ?_)
  exact List.perm_append_comm
theorem kept_bring {S : List Sh} {k : Str} {a : Nat} (hS : ∀ t ∈ S, ∀ p ∈ t, 0 < p.2) (hk : k ∈ (flat S).map (·.1)) (ha : a < S.length) :
    Kept S (endSt S k a) ∧ (∀ t ∈ endSt S k a, ∀ p ∈ t, 0 < p.2) ∧ (flat (endSt S k a)).length ≤ (flat S).length + 1 := by
  have hl : (without S k).length = S.length := by unfold without; rw [List.length_map]
  have hW : ∀ t ∈ without S k, ∀ p ∈ t, 0 < p.2 := fun t ht p hp => by
    obtain ⟨s, _, rfl⟩ := List.mem_map.mp ht
    exact putTog_pos _ p hp
  have pm := flat_end (W := without S k) (a := a) (by omega) (k, cnt (flat S) k)
  have hc : 0 < cnt (flat S) k := (cnt_pos (pos_flat hS) k).mpr hk
  refine ⟨⟨?_, fun z => ?_⟩, fun t ht p hp => ?_, ?_⟩
  · unfold endSt
    simp only [List.length_append, List.length_take, List.length_drop, List.length_cons, List.length_nil]
    omega
  · unfold endSt
    rw [cnt_perm pm, cnt_app, cnt_one, cnt_flat_without k z S hS]
    by_cases h : z = k
    · rw [if_pos h, if_pos h.symm, h]; omega
    · rw [if_neg h, if_neg (fun q => h q.symm)]; omega
  · have hm : p ∈ flat (endSt S k a) := List.mem_flatMap.mpr ⟨t, ht, hp⟩
    have hm2 := pm.mem_iff.mp hm
    rcases List.mem_append.mp hm2 with h | h
    · exact pos_flat hW p h
    · rw [List.mem_singleton.mp h]; exact hc
  · unfold endSt
    rw [pm.length_eq, List.length_append]
    have := len_without k S
    show _ + 1 ≤ _
    omega
end K8
end

section
set_option Elab.async false
set_option linter.all false
set_option maxRecDepth 100000
set_option maxHeartbeats 4000000
/-! K81: _law_led. -/
namespace K8
open PySem PySem.Spec PyProof.Rows L2
theorem Gd.few {S : List Sh} {n : Nat} (g : Gd S n) (hn : n ≤ 200) : Few S := ⟨by have := g.len4; omega, Nat.le_trans g.rows (by omega)⟩
theorem way_step {S : List Sh} {n : Nat} {y : Way} (g : Gd S n) (h : OkWay S y) {y' : Way} (hy : y' = y ∨ ∃ s d m m', y = .move s d m ∧ y' = .move s d m' ∧ 1 ≤ m' ∧ m' ≤ m) : GoWay S y' ∧ Kept S (behindSt S y') ∧ Gd (behindSt S y') (n + 1) := by
  cases y with
  | bring k a =>
    rcases hy with rfl | ⟨s, d, m, m', e, _⟩
    · obtain ⟨k1, p1, l1⟩ := kept_bring g.pos h.1 h.2
      exact ⟨h, k1, gd_kept g k1 p1 (Nat.le_trans l1 (Nat.succ_le_succ g.rows))⟩
    · cases e
  | move s d m =>
    obtain ⟨hne, k, m2, h1, h2⟩ := h
    have hm : 0 < m := by
      unfold rowAt at h1
      cases e : S[s.1]? with
      | none => rw [e] at h1; cases h1
      | some sh =>
        rw [e] at h1
        exact g.pos sh (List.mem_of_getElem? e) (k, m) (List.mem_of_getElem? (show sh[s.2]? = some (k, m) from h1))
    have key : ∀ m', 1 ≤ m' → m' ≤ m → GoWay S (.move s d m') ∧ Kept S (behindSt S (.move s d m')) ∧ Gd (behindSt S (.move s d m')) (n + 1) := fun m' a b => by
      obtain ⟨k1, p1, l1⟩ := kept_move g.pos hne h1 h2 a b
      exact ⟨hne, k1, gd_kept g k1 p1 (Nat.le_trans l1 (Nat.le_succ_of_le g.rows))⟩
    rcases hy with rfl | ⟨s', d', m', m'', e, rfl, a, b⟩
    · exact key m (by omega) (Int.le_refl _)
    · cases e
      exact key m'' a b
theorem way_size {S : List Sh} {n : Nat} {s d : Sp2} {m : Int} (g : Gd S n) (h : OkWay S (.move s d m)) : 1 ≤ m ∧ m ≤ 1000 := by
  obtain ⟨hne, k, m2, h1, h2⟩ := h
  unfold rowAt at h1
  cases e : S[s.1]? with
  | none => rw [e] at h1; cases h1
  | some sh =>
    rw [e] at h1
    have hm : (k, m) ∈ sh := List.mem_of_getElem? (show sh[s.2]? = some (k, m) from h1)
    have hs := List.mem_of_getElem? e
    have h0 := g.pos sh hs (k, m) hm
    have h3 := cnt_mem (rows := flat S) (fun p hp => Int.le_of_lt (pos_flat g.pos p hp)) (List.mem_flatMap.mpr ⟨sh, hs, hm⟩)
    have h4 := g.cnt k
    simp only at h0 h3
    omega
theorem go_t {A B : Prop} (h : A) : if true = true then A else B := h
theorem go_f {A B : Prop} (h : B) : if false = true then A else B := h
theorem q_asgOp {r : R2} {ta tb : TE} {g : TG} {D : L2.Ends} {σ : L2.St} {H : Hp} (h : ta σ H fun x H1 => tb σ H1 fun y H2 => r x y H2 fun v H3 => g v σ H3 D.nx) : tAsg (tOp r ta tb) g D σ H := h
theorem ne_bm : decide ((Str.ofString "bring" : Str) = Str.ofString "move") = false := by decide +kernel
section
variable {P : Program} {w : World} {K : PySem.W.Frag}
theorem q_if2 {G : Hp → Prop} {tt tu : TT} {u w' : TS} {σ : L2.St} {H : Hp} {D : L2.Ends} {b : Bool} (h : EvT G tt σ b) (g : G H) (h1 : b = true → ∀ H1, Same H H1 → tu σ H1 fun c H2 => if c = true then u D σ H2 else w' D σ H2) (h2 : b = false → ∀ H1, Same H H1 → w' D σ H1) : tIfS (tAnd tt tu) u w' D σ H := h H g _ fun H1 s => by
  cases b with
  | true => exact h1 rfl H1 s
  | false => exact h2 rfl H1 s
theorem led_fin {H H6 : Hp} {D : L2.Ends} {bx g : Addr} {hv wv : V} {loan : Int} {S T : List Sh} {y' : Way} {n i m : Nat} {ws : List V} {o5 o6 : Option V} (gT : Gd T (n + i)) (hn : n ≤ 100) (hi : i ≤ 4) (kT : Kept S T) (hgH : H g = none) (hgb : g ≠ bx) (st : GoWay T y' ∧ Kept T (behindSt T y') ∧ Gd (behindSt T y') (n + i + 1)) (b6 : Ba bx m H H6) (tT : Tp H6 hv (stD T)) (e6 : H6 g = some (.lst ws)) (hw : ws.length ≤ 100) (tw : Tp H6 wv (wayD y'))
    (k : ∀ (hv' : V) (ws' : List V) (T' : List Sh) {H7 : Hp}, Ba bx m H H7 → Tp H7 hv' (stD T') → Gd T' (n + i + 1) → Kept S T' → H7 g = some (.lst ws') → ws'.length ≤ ws.length + 1 → D.nx [some (.ref bx), some hv', some (.int loan), some (.int 4), some (.ref g), o5, o6, some wv] H7) :
    tSeq (tAsg (tCall spBehind [] E0 (tCons (tVar 1) (tCons (tVar 7) tNil))) (gName 1)) (tDrop (tBM K "list" rAppend (tVar 4) (tCons (tVar 7) tNil))) D [some (.ref bx), some hv, some (.int loan), some (.int 4), some (.ref g), o5, o6, some wv] H6 := by
  obtain ⟨s1, s2, s3⟩ := st
  refine ⟨hv, rfl, wv, rfl, hv, wv, T, y', rfl, tT, gT.few (by omega), gT.ok, tw, s1, fun u H7 s7 t7 => ?_⟩
  refine q_gn ?_
  refine q_append (G := fun H8 => Same H7 H8) (d := wayD y') (us := ws) rfl (ed_var rfl fun H8 s => (tw.up s7).up s) (Same.refl H7) (s7 _ _ e6) (by omega) fun vv H8 s8 t8 => ?_
  have e8 := s8 _ _ (s7 _ _ e6)
  refine k u (ws ++ [vv]) (behindSt T y') (((b6.same s7).same s8).mut hgH hgb) ((t7.up s8).mono (Ts.lst e8)) s3 (kT.trans s2) (by simp [upd]) (by rw [List.length_append]; exact Nat.le_refl _)
end
abbrev nLed : List Str := ["_law_box_here", "_law_here", "_law_loan", "_law_most", "_law_went", "_law_turn", "_law_ways_here", "_law_way"]
theorem sc_Led : FnScope nLed ["_law_box_here", "_law_here", "_law_loan", "_law_most"] (defScope (K81.top 31)) := ⟨rfl, rfl, rfl, by decide +kernel, rfl, by decide +kernel, by decide +kernel⟩
def spLed : Sp := fun vs H Q _ => ∃ (bx : Addr) (v : V) (S : List Sh) (loan : Int) (n c : Nat), vs = [.ref bx, v, .int loan, .int 4] ∧ Tp H v (stD S) ∧ Gd S n ∧ n ≤ 100 ∧ Bx bx (c + 20) H ∧ ∀ t u x H' (T : List Sh), Ba bx 20 H H' → Rd H' t (.tup [u, x]) → Tp H' u (stD T) → Gd T (n + 4) → Kept S T → Q (.ref t) H'
section
variable {P : Program} {w : World} {K : PySem.W.Frag} {mg : Str → Option Value} {base : Heap}
theorem cal_Led (B : Bi mg) (D : DfE K mg "_law_led" 31) (CLTake : Cal P w K mg base "_law_take" 1 ["_law_box_here", "_law_bound"] spTake) (CLPick : Cal P w K mg base "_law_pick" 2 ["_law_box_here", "_law_things"] spPick) (CLWays : Cal P w K mg base "_law_ways" 2 ["_law_here", "_law_loan"] spWaysL) (CLBehind : Cal P w K mg base "_law_behind" 3 ["_law_here", "_law_way"] spBehind) :
    Cal P w K mg base "_law_led" 4 ["_law_box_here", "_law_here", "_law_loan", "_law_most"] spLed := by
  obtain ⟨f, fd, D⟩ := D
  have nd := sc_Led.nd
  refine D.cal (D.F.ok sc_Led (fun vs H Q E h => ?_) fun cdv A outer s H vs Q E hr h => ⟨_, PSs.nox
    ((pss_cons (ps_set (i := 4) nd rfl (by first | exact Or.inl rfl | exact Or.inr rfl) (pe_lst pa_nil))
      (pss_cons (ps_for PassesOwn.never rfl (pi_range1 rfl B.range (pa_cons (pe_callC CLTake (hr.mono (by decide)) (pa_cons (pv 0) (pa_cons (pe_op op_add (pv 3) pe_int) pa_nil))) pa_nil)) (pg_name (i := 5) nd rfl (by first | exact Or.inl rfl | exact Or.inr rfl)) (pss_cons (ps_set (i := 6) nd rfl (by first | exact Or.inl rfl | exact Or.inr rfl) (pe_callC CLWays (hr.mono (by decide)) (pa_cons (pv 1) (pa_cons (pv 2) pa_nil))))
      (pss_one (ps_if (pt_cmpR (op_neD hr.units) (pv 6) (pe_lst pa_nil) (nomark _)) (pss_cons (ps_set (i := 7) nd rfl (by first | exact Or.inl rfl | exact Or.inr rfl) (pe_callC CLPick (hr.mono (by decide)) (pa_cons (pv 0) (pa_cons (pv 6) pa_nil))))
      (pss_cons (ps_if (PW.pt (pw_and (pt_cmpR op_eq (pe_ix ix_tup (pv 7) pe_int (fun _ _ => rfl)) pe_str (nomark _)) (pw_and1 (pt_cmpR op_eq (pe_callC CLTake (hr.mono (by decide)) (pa_cons (pv 0) (pa_cons pe_int pa_nil))) pe_int (nomark _))))) (pss_one (ps_set (i := 7) nd rfl (by first | exact Or.inl rfl | exact Or.inr rfl) (pe_op op_catA (pe_slice sl_tupA (pv 7) po_none (po_some pe_int)) (pe_tup (pa_cons (pe_op op_add pe_int (pe_callC CLTake (hr.mono (by decide)) (pa_cons (pv 0) (pa_cons (pe_ix ix_tup (pv 7) pe_int (fun _ _ => rfl)) pa_nil)))) pa_nil))))) pss_nil)
      (pss_cons (ps_set (i := 1) nd rfl (by first | exact Or.inl rfl | exact Or.inr rfl) (pe_callC CLBehind (hr.mono (by decide)) (pa_cons (pv 1) (pa_cons (pv 7) pa_nil))))
      (pss_one (ps_expr (pe_bm PySem.F.plainAttrs_list PySem.F.slot_list_append PySem.F.type_list_append mt_append (pv 4) (pa_cons (pv 7) pa_nil))))))) pss_nil))))
      (pss_one (ps_ret (pe_tup (pa_cons (pv 1) (pa_cons (pv 4) pa_nil)))))))), ?_⟩)
    (fun kV doc pm an cdv ct us hl => match us, hl with | [_, _, _, _], _ => rfl)
  · obtain ⟨bx, v, S, loan, n, c, rfl, _⟩ := h; rfl
  · obtain ⟨bx, v, S, loan, n, c, rfl, tv, gd, hn, hb, hq⟩ := h
    refine q_asgL (G := fun H' => Same H H') (el_lst ea_nil (by decide)) (Same.refl H) fun g gs H1 hg0 s1 eg tg => ?_
    cases tg
    have hgH : H g = none := hg0
    have hgb := hb.ne_free hgH
    have hb1 := hb.up s1
    refine q_nx ?_
    refine tFor_rng ?_
    refine ⟨.ref bx, rfl, .int 4, rfl, 4, 1, rfl, rfl, bx, 5, c + 19, rfl, hb1.le (by omega), by decide, by decide, fun r H2 q1 q2 b2 => ?_⟩
    obtain ⟨r, rfl⟩ := Int.eq_ofNat_of_zero_le q1
    have hr5 : r < 5 := by omega
    refine ⟨(r : Nat), rfl, by omega, by omega, ?_⟩
    rw [Int.toNat_natCast]
    have t2 := b2.ts hb1
    refine fo_rng (fun i τ H' => ∃ (hv : V) (T : List Sh) (ws : List V) (o5 o6 o7 : Option V), τ = [some (.ref bx), some hv, some (.int loan), some (.int 4), some (.ref g), o5, o6, o7] ∧ Ba bx (1 + i * 3) H H' ∧ Tp H' hv (stD T) ∧ Gd T (n + i) ∧ Kept S T ∧ H' g = some (.lst ws) ∧ ws.length ≤ i) ?_ ?_ ?_
    · exact ⟨v, S, [], none, none, none, rfl, (Same.ba s1 b2).le (by omega), (tv.up s1).mono t2, gd, Kept.refl S, b2.off _ _ hgb eg, Nat.le_refl _⟩
    · rintro i τ H' hi ⟨hv, T, ws, o5, o6, o7, rfl, ba, tT, gT, kT, egw, hwl⟩
      have hb' : Bx bx (c + (4 - i) * 3) H' := ba.box _ (hb.le (by omega))
      refine q_asgR (G := fun H3 => Same H' H3) (R := fun x H3 => ∃ (p : Addr) (us : List V) (ys : List Way), x = .ref p ∧ p ≠ bx ∧ H3 p = some (.lst us) ∧ TpA H3 us (ys.map wayD) ∧ (∀ y ∈ ys, OkWay T y) ∧ ys.length ≤ 50000) (fun H3 s3 Q3 q3 => ?_) (Same.refl H') fun x H3 s3 hx => ?_
      · refine ⟨hv, rfl, .int loan, rfl, hv, T, loan, rfl, tT.up s3, by have := gT.len4; omega, Nat.le_trans gT.rows (by omega), fun p us H4 ys hp s4 e4 t4 h4 l4 => q3 _ H4 s4 ⟨p, us, ys, rfl, (hb'.up s3).ne_free hp, e4, t4, h4, l4⟩⟩
      obtain ⟨p, us, ys, rfl, hpb, ep, tp, hok, hyl⟩ := hx
      have tT3 := tT.up s3
      have hb3 := hb'.up s3
      have ba3 := ba.same s3
      have eg3 := s3 _ _ egw
      refine q_if (G := fun H4 => Same H3 H4) (b := !ys.isEmpty) (et_test (EvB.to (eb_neNil (ds := ys.map wayD) (fun d hd => ?_) (fun d hd => ?_) (er_var rfl fun H4 s => ⟨p, us, rfl, s _ _ ep, tp.up s⟩)) (by rw [List.isEmpty_map]))) (Same.refl H3) (fun hne H4 s4 => ?_) fun hne H4 s4 => ?_
      · obtain ⟨y, hy, rfl⟩ := List.mem_map.mp hd
        have hx := hok y hy
        cases y with
        | move s d m =>
          refine tx_tup fun e he => ?_
          have h2 : ∀ q : Sp2, TxOk (spotD q) := fun q => tx_tup fun e he => by
            rcases List.mem_cons.mp he with rfl | he
            · exact tx_num
            · rw [List.mem_singleton.mp he]; exact tx_num
          rcases List.mem_cons.mp he with rfl | he
          · exact tx_text (by decide +kernel)
          · rcases List.mem_cons.mp he with rfl | he
            · exact h2 _
            · rcases List.mem_cons.mp he with rfl | he
              · exact h2 _
              · rw [List.mem_singleton.mp he]; exact tx_num
        | bring k a =>
          refine tx_tup fun e he => ?_
          rcases List.mem_cons.mp he with rfl | he
          · exact tx_text (by decide +kernel)
          · rcases List.mem_cons.mp he with rfl | he
            · obtain ⟨q, hq', e1⟩ := List.mem_map.mp hx.1
              obtain ⟨sh, hsh, hq''⟩ := List.mem_flatMap.mp hq'
              rw [← e1]
              exact tx_text (gT.ok sh hsh q hq'')
            · rw [List.mem_singleton.mp he]; exact tx_num
      · obtain ⟨y, hy, rfl⟩ := List.mem_map.mp hd
        cases y with
        | move s d m => exact Nat.le_of_ble_eq_true rfl
        | bring k a => exact Nat.le_of_ble_eq_true rfl
      · -- one way is picked
        have hyne : 1 ≤ ys.length := by cases ys with
          | nil => simp at hne
          | cons y ys => exact Nat.succ_le_succ (Nat.zero_le _)
        have hb4 := hb3.up s4
        have tT4 := tT3.up s4
        refine ⟨.ref bx, rfl, .ref p, rfl, bx, p, c + (3 - i) * 3 + 2, us, ys.map wayD, rfl, hpb, hb4.le (by omega), s4 _ _ ep, tp.up s4, by rw [List.length_map]; exact hyne, by rw [List.length_map]; omega, fun yv yd H5 hyd b5 ty => ?_⟩
        obtain ⟨y, hy, rfl⟩ := List.mem_map.mp hyd
        have hyok := hok y hy
        have t5 := b5.ts hb4
        have tT5 := tT4.mono t5
        have hb5 : Bx bx (c + (3 - i) * 3 + 2) H5 := b5.box _ (hb4.le (by omega))
        have ba5 := (ba3.same s4).trans b5
        have eg5 := b5.off _ _ hgb (s4 _ _ eg3)
        refine q_gn ?_
        cases y with
        | bring k a =>
          refine q_if2 (G := fun H6 => Same H5 H6) (b := false) (EvT.to (et_cmp (ed_ixc (d := .text (Str.ofString "bring")) (ed_var (d := wayD (.bring k a)) rfl fun H6 s => ty.up s) (atI_nat (j := 0) rfl)) ed_str rb_eqS) ne_bm) (Same.refl H5) (fun z => nomatch z) fun _ H6 s6 => ?_
          refine led_fin (S := S) (H := H) (m := 1 + i * 3 + 3) gT hn (by omega) kT hgH hgb (way_step gT hyok (.inl rfl)) ((ba5.same s6).le (by omega)) (tT5.up s6) (s6 _ _ eg5) (by omega) (ty.up s6) fun hv' ws' T' {H7} b7 t7 g7 k7 e7 l7 => ⟨hv', T', ws', _, _, _, rfl, b7.le (by omega), t7, g7, k7, e7, by omega⟩
        | move sp dp m =>
          obtain ⟨m1, m2⟩ := way_size gT hyok
          refine q_if2 (G := fun H6 => Same H5 H6) (b := true) (EvT.to (et_cmp (ed_ixc (d := .text (Str.ofString "move")) (ed_var (d := wayD (.move sp dp m)) rfl fun H6 s => ty.up s) (atI_nat (j := 0) rfl)) ed_str rb_eqS) (decide_eq_true rfl)) (Same.refl H5) (fun _ H6 s6 => ?_) (fun z => nomatch z)
          have hb6 := hb5.up s6
          have hb6 := hb5.up s6
          refine ⟨.ref bx, rfl, bx, 2, c + (3 - i) * 3 + 1, rfl, hb6, by decide, by decide, fun r2 H7 q3 q4 b7 => ?_⟩
          have hb7 : Bx bx (c + (3 - i) * 3 + 1) H7 := b7.box _ hb6
          have t57 : Ts H5 H7 := (Ts.of s6).trans (b7.ts hb6)
          have ba7 := (ba5.same s6).trans b7
          have eg7 := b7.off _ _ hgb (s6 _ _ eg5)
          have ty7 := ty.mono t57
          by_cases hr2 : r2 = 0
          · refine ⟨rfl, true, by rw [hr2]; rfl, ?_⟩
            refine go_t (q_asgOp ?_)
            have key : EvD (fun H8 => Same H7 H8) (tSl (rSlA K) (tVar 7) tNoPart (tPart (tC (.int 3)))) [some (.ref bx), some hv, some (.int loan), some (.int 4), some (.ref g), some (.int (i : Nat)), some (.ref p), some yv] (.tup [.text (Str.ofString "move"), spotD sp, spotD dp]) := EvD.to (ed_sl (ed_var (d := wayD (.move sp dp m)) rfl fun H8 s => ty7.up s) eo_none (eo_some ed_int)) (by rw [show (3 : Int) = ((3 : Nat) : Int) from rfl, cut_to]; rfl)
            refine key H7 (Same.refl _) _ fun v3 H8 s8 t8 => ?_
            have hb8 := hb7.up s8
            have ty8 := ty7.up s8
            have key2 : EvD (fun H9 => Same H8 H9) (tOp (rIxT K) (tVar 7) (tC (.int 3))) [some (.ref bx), some hv, some (.int loan), some (.int 4), some (.ref g), some (.int (i : Nat)), some (.ref p), some yv] (.num m) := ed_ixc (ed_var (d := wayD (.move sp dp m)) rfl fun H9 s => ty8.up s) (atI_nat (j := 3) rfl)
            refine ⟨.ref bx, rfl, ?_⟩
            refine key2 H8 (Same.refl _) _ fun mv H9 s9 t9 => ?_
            cases t9
            have hb9 := hb8.up s9
            refine ⟨bx, m, c + (3 - i) * 3, rfl, hb9, m1, by omega, fun r3 H10 q5 q6 b10 => ?_⟩
            refine ⟨1, r3, rfl, rfl, (by show 1 ≤ sizeLine; decide), fun t1 ht1 => ?_⟩
            have sn := same_new (o := .tup [.int (1 + r3)]) ht1
            have tp1 : Tp (upd H10 t1 (.tup [.int (1 + r3)])) (.ref t1) (.tup [.num (1 + r3)]) := tp_new ht1 (.cons (.num _) .nil)
            generalize upd H10 t1 (.tup [.int (1 + r3)]) = H11 at sn tp1 ⊢
            have t711 : Ts H7 H11 := ((Ts.of (s8.trans s9)).trans (b10.ts hb9)).trans (Ts.of sn)
            have t811 : Ts H8 H11 := ((Ts.of s9).trans (b10.ts hb9)).trans (Ts.of sn)
            refine rd_cat (G := fun _ => True) (K := K) (ds := [.text (Str.ofString "move"), spotD sp, spotD dp]) (es := [.num (1 + r3)]) (show 4 ≤ 100000 by decide) v3 (.ref t1) H11 trivial (t8.mono t811) tp1 _ fun z H12 s12 t12 => ?_
            refine q_gn ?_
            have t1112 := Ts.of s12
            refine led_fin (S := S) (H := H) (m := 1 + i * 3 + 3) gT hn (by omega) kT hgH hgb (way_step gT hyok (.inr ⟨sp, dp, m, 1 + r3, rfl, rfl, by omega, by omega⟩)) ((((ba7.same (s8.trans s9)).trans b10).same (sn.trans s12)).le (by omega)) (tT5.mono ((t57.trans t711).trans t1112)) (s12 _ _ (sn _ _ (b10.off _ _ hgb ((s8.trans s9) _ _ eg7)))) (by omega) t12 fun hv' ws' T' {H7} b7 t7 g7 k7 e7 l7 => ⟨hv', T', ws', _, _, _, rfl, b7.le (by omega), t7, g7, k7, e7, by omega⟩
          · refine ⟨rfl, false, congrArg V.bl (decide_eq_false fun z => hr2 (V.int.inj z)), ?_⟩
            refine go_f ?_
            refine q_nx ?_
            refine led_fin (S := S) (H := H) (m := 1 + i * 3 + 3) gT hn (by omega) kT hgH hgb (way_step gT hyok (.inl rfl)) (ba7.le (by omega)) (tT5.mono t57) eg7 (by omega) ty7 fun hv' ws' T' {H7} b7 t7 g7 k7 e7 l7 => ⟨hv', T', ws', _, _, _, rfl, b7.le (by omega), t7, g7, k7, e7, by omega⟩
      · exact ⟨hv, T, ws, _, _, _, rfl, (ba3.same s4).le (by omega), tT3.up s4, ⟨gT.len1, gT.len4, gT.pos, gT.ok, Nat.le_trans gT.rows (by omega), gT.cnt, gT.kinds⟩, kT, s4 _ _ eg3, by omega⟩
    · rintro τ H' ⟨hv, T, ws, o5, o6, o7, rfl, ba, tT, gT, kT, egw, hwl⟩
      refine q_nx ?_
      refine ⟨hv, rfl, .ref g, rfl, (by show 2 ≤ sizeLine; decide), fun t ht => ?_⟩
      have sn := same_new (o := .tup [hv, .ref g]) ht
      exact hq t hv (.ref g) _ T ((ba.same sn).le (by omega)) (.inl (by simp [upd])) (tT.up sn) ⟨gT.len1, gT.len4, gT.pos, gT.ok, Nat.le_trans gT.rows (by omega), gT.cnt, gT.kinds⟩ kT
end
end K8
end

section
set_option Elab.async false
set_option linter.all false
set_option maxRecDepth 100000
set_option maxHeartbeats 4000000
/-! K81: _law_shared. -/
namespace K8
open PySem PySem.Spec PyProof.Rows L2
theorem yes_go {te : TE} {σ τ : L2.St} {H : Hp} {Q : VK} {A : Hp → Prop} (h : te τ H Q) : tYes σ H fun b H3 => if b = true then te τ H3 Q else A H3 := h
/-- for over a list that stands, from where its iterator stands -/
theorem fo_list {α : Type} {K : PySem.W.Frag} {a : Addr} {us : List V} {xs : List α} {mk : α → Dt} {g : TG} {tb : TS} {D : L2.Ends} {σ : L2.St} {H1 : Hp} (Pv : Nat → L2.St → Hp → Prop) (h0 : Pv 0 σ H1)
    (hT : ∀ i τ H', Pv i τ H' → H' a = some (.lst us) ∧ TpA H' us (xs.map mk))
    (hs : ∀ i b τ H' x, xs[i]? = some b → b ∈ xs → Pv i τ H' → Tp H' x (mk b) → g x τ H' fun τ2 H3 => tb { D with nx := Pv (i + 1), ct := Pv (i + 1), bk := D.nx } τ2 H3)
    (hd : ∀ τ H', Pv xs.length τ H' → D.nx τ H') : FoAt (Itl K a) g tb D σ H1 := by
  refine ⟨fun i m τ H' => m = xs.length - i ∧ i ≤ xs.length ∧ Pv i τ H', ⟨xs.length, rfl, Nat.zero_le _, h0⟩, ?_⟩
  rintro i m τ H' ⟨rfl, hle, p⟩
  obtain ⟨e', t'⟩ := hT i τ H' p
  have q : SqL K H' a us := .inl (.inl e')
  have hlen : us.length = xs.length := by rw [t'.length, List.length_map]
  by_cases hlt : i < xs.length
  · have hx : us[i]? = some (us[i]'(by omega)) := List.getElem?_eq_getElem _
    refine .inr ⟨⟨us, _, q, hx⟩, Pv (i + 1), fun τ' H'' p' => ⟨xs.length - (i + 1), by omega, rfl, hlt, p'⟩, fun x H'' y => ?_⟩
    obtain ⟨rfl, hy⟩ := y
    obtain ⟨d, hd', td⟩ := t'.getV (hy us q)
    obtain ⟨b, hb, hm, rfl⟩ := at_map hd'
    exact hs i b τ H'' x hb hm p td
  · have e2 : i = xs.length := by omega
    subst e2
    exact .inl ⟨⟨us, q, Nat.le_of_eq hlen⟩, hd τ H' p⟩
theorem tFor_list {K : PySem.W.Frag} {te : TE} {g : TG} {tb : TS} {D : L2.Ends} {σ : L2.St} {H : Hp} (h : te σ H fun x H1 => ∃ a, x = .ref a ∧ (∃ xs, SqL K H1 a xs) ∧ FoAt (Itl K a) g tb D σ H1) : tFor (iList K te) g tb D σ H := h
def addLot (L : List Sh) (j : Nat) (p : Rw) : List Sh := L.modify j fun s => s ++ [p]
theorem addLot_len (L : List Sh) (j : Nat) (p : Rw) : (addLot L j p).length = L.length := List.length_modify ..
theorem addLot_cnt {L : List Sh} {j : Nat} (hj : j < L.length) (k : Str) (n : Int) (z : Str) : cnt (flat (addLot L j (k, n))) z = cnt (flat L) z + (if k = z then n else 0) := by
  unfold addLot
  rw [cnt_flat_modify, List.getElem?_eq_getElem hj]
  simp only
  rw [cnt_app, cnt_one]
  simp only
  omega
theorem addLot_rows (p : Rw) : ∀ (L : List Sh) (j : Nat), (flat (addLot L j p)).length ≤ (flat L).length + 1
  | [], j => by cases j <;> exact Nat.zero_le _
  | s :: L, 0 => by
    show (flat ((s ++ [p]) :: L)).length ≤ _
    rw [flat_cons, flat_cons, List.length_append, List.length_append, List.length_append]
    show s.length + 1 + _ ≤ _
    omega
  | s :: L, j + 1 => by
    have := addLot_rows p L j
    show (flat (s :: addLot L j p)).length ≤ _
    rw [flat_cons, flat_cons, List.length_append, List.length_append]
    omega
/-- rows that may be put together -/
def Nn (L : List Sh) : Prop := ∀ s ∈ L, ∀ p ∈ s, 0 ≤ p.2 ∧ OkT p.1
theorem Nn.add {L : List Sh} (h : Nn L) (j : Nat) {p : Rw} (hp : 0 ≤ p.2 ∧ OkT p.1) : Nn (addLot L j p) := fun s hs q hq => by
  obtain ⟨i, hi⟩ := List.getElem?_of_mem hs
  unfold addLot at hi
  rw [get_mod] at hi
  by_cases e : j = i
  · rw [if_pos e] at hi
    cases e2 : L[i]? with
    | none => rw [e2] at hi; cases hi
    | some t =>
      rw [e2] at hi
      have := Option.some.inj hi
      rw [← this] at hq
      rcases List.mem_append.mp hq with hq | hq
      · exact h t (List.mem_of_getElem? e2) q hq
      · rw [List.mem_singleton.mp hq]; exact hp
  · rw [if_neg e] at hi
    exact h s (List.mem_of_getElem? hi) q hq
theorem nodup_at {α : Type} {l : List α} (h : l.Nodup) {i j : Nat} {a : α} (hi : l[i]? = some a) (hj : l[j]? = some a) : i = j := by
  obtain ⟨i1, g1⟩ := List.getElem?_eq_some_iff.mp hi
  obtain ⟨j1, g2⟩ := List.getElem?_eq_some_iff.mp hj
  have h2 := List.pairwise_iff_getElem.mp h
  rcases Nat.lt_trichotomy i j with h3 | h3 | h3
  · exact absurd (g1.trans g2.symm) (h2 i j i1 j1 h3)
  · exact h3
  · exact absurd (g2.trans g1.symm) (h2 j i j1 i1 h3)
theorem len_mem_flat {L : List Sh} {s : Sh} (h : s ∈ L) : s.length ≤ (flat L).length := by
  induction L with
  | nil => cases h
  | cons t L ih =>
    rw [flat_cons, List.length_append]
    rcases List.mem_cons.mp h with rfl | h
    · omega
    · have := ih h; omega
structure Lots (H0 H : Hp) (l : Addr) (as : List Addr) (L : List Sh) : Prop where
  lst : H l = some (.lst (as.map V.ref))
  len : as.length = L.length
  nd : as.Nodup
  nl : l ∉ as
  l0 : H0 l = none
  a0 : ∀ a ∈ as, H0 a = none
  row : ∀ (j : Nat) (a : Addr) (r : Sh), as[j]? = some a → L[j]? = some r → ∃ us, H a = some (.lst us) ∧ TpA H us (r.map bkD)
section
variable {H0 H H' : Hp} {bx l : Addr} {as : List Addr} {L : List Sh} {m c : Nat}
theorem Lots.ba (lo : Lots H0 H l as L) (hb0 : Bx bx 0 H0) (b : Ba bx m H H') (hb : Bx bx c H) : Lots H0 H' l as L :=
  ⟨b.off _ _ (hb0.ne_free lo.l0) lo.lst, lo.len, lo.nd, lo.nl, lo.l0, lo.a0, fun j a r h1 h2 => by
    obtain ⟨us, e, t⟩ := lo.row j a r h1 h2
    exact ⟨us, b.off _ _ (hb0.ne_free (lo.a0 a (List.mem_of_getElem? h1))) e, t.mono (b.ts hb)⟩⟩
theorem Lots.up (lo : Lots H0 H l as L) (s : Same H H') : Lots H0 H' l as L :=
  ⟨s _ _ lo.lst, lo.len, lo.nd, lo.nl, lo.l0, lo.a0, fun j a r h1 h2 => by
    obtain ⟨us, e, t⟩ := lo.row j a r h1 h2
    exact ⟨us, s _ _ e, t.up s⟩⟩
theorem Lots.add (lo : Lots H0 H l as L) {j : Nat} {a : Addr} {r : Sh} {us : List V} {v : V} {p : Rw} (hj : as[j]? = some a) (hr : L[j]? = some r) (e : H a = some (.lst us)) (t : TpA H us (r.map bkD)) (tp : Tp H v (bkD p)) : Lots H0 (upd H a (.lst (us ++ [v]))) l as (addLot L j p) := by
  have ham := List.mem_of_getElem? hj
  have ts : Ts H (upd H a (.lst (us ++ [v]))) := Ts.lst e
  refine ⟨by rw [upd_ne (fun z : l = a => lo.nl (by rw [z]; exact ham))]; exact lo.lst, by rw [addLot_len]; exact lo.len, lo.nd, lo.nl, lo.l0, lo.a0, fun i b s h1 h2 => ?_⟩
  unfold addLot at h2
  rw [get_mod] at h2
  by_cases hij : j = i
  · subst hij
    rw [hj] at h1
    obtain rfl := Option.some.inj h1
    rw [if_pos rfl, hr] at h2
    obtain rfl := Option.some.inj h2
    refine ⟨us ++ [v], by simp [upd], ?_⟩
    rw [List.map_append]
    exact (t.snoc tp).mono ts
  · rw [if_neg hij] at h2
    obtain ⟨ws, e2, t2⟩ := lo.row i b s h1 h2
    have hne : b ≠ a := fun z => by
      exact hij (nodup_at lo.nd hj (z ▸ h1))
    exact ⟨ws, by rw [upd_ne hne]; exact e2, t2.mono ts⟩
/-- lots_here[take(box, len(lots_here))].append((sort, x)) -/
theorem q_lot {K : PySem.W.Frag} {σ : L2.St} {D : L2.Ends} {k : Str} {x : Int} {i : Nat} (h0 : σ[0]? = some (some (.ref bx))) (h2 : σ[2]? = some (some (.ref l))) (h4 : σ[4]? = some (some (.str k))) (hi : σ[i]? = some (some (.int x))) (hb0 : Bx bx 0 H0) (lo : Lots H0 H l as L) (ba : Ba bx m H0 H) (hb : Bx bx (c + 1) H) (l1 : 1 ≤ L.length) (l4 : L.length ≤ 4) (hz : (flat L).length ≤ 1000)
    (q : ∀ j H', j < L.length → Ba bx (m + 1) H0 H' → Ts H H' → (∀ b o, b ∉ as → b ≠ bx → H b = some o → H' b = some o) → Lots H0 H' l as (addLot L j (k, x)) → D.nx σ H') :
    tDrop (tBM K "list" rAppend (tOp (rIxL K) (tVar 2) (tCall spTake [] E0 (tCons (tVar 0) (tCons (tCB (fun xs H Q => ∃ p ys, xs = [.ref p] ∧ (SqL K H p ys ∨ SqT K H p ys) ∧ Q (.int ys.length) H) (tCons (tVar 2) tNil)) tNil)))) (tCons (tTup (tCons (tVar 4) (tCons (tVar i) tNil))) tNil)) D σ H := by
  have hal : (as.map V.ref).length = L.length := by rw [List.length_map]; exact lo.len
  refine ⟨.ref l, h2, .ref bx, h0, .ref l, h2, l, as.map V.ref, rfl, .inl (.inl (.inl lo.lst)), bx, ((as.map V.ref).length : Int), c, rfl, hb, by omega, by omega, fun r H1 r0 r1 b1 => ?_⟩
  obtain ⟨r, rfl⟩ := Int.eq_ofNat_of_zero_le r0
  have hr : r < L.length := by omega
  have lo1 := lo.ba hb0 b1 hb
  have hra : r < as.length := by rw [lo.len]; exact hr
  obtain ⟨us, e, t⟩ := lo1.row r as[r] L[r] (List.getElem?_eq_getElem hra) (List.getElem?_eq_getElem hr)
  have hus : us.length ≤ 1000 := by
    rw [t.length, List.length_map]
    exact Nat.le_trans (len_mem_flat (List.getElem_mem hr)) hz
  refine ⟨l, as.map V.ref, (r : Nat), .ref as[r], rfl, rfl, .inl (.inl lo1.lst), atI_nat (by rw [List.getElem?_map, List.getElem?_eq_getElem hra]; rfl), .inl ⟨rfl, us, .inl (.inl e)⟩, .str k, h4, .int x, hi, (show 2 ≤ sizeLine by decide), fun tt htt => ?_⟩
  have sn := same_new (o := .tup [.str k, .int x]) htt
  have tp : Tp (upd H1 tt (.tup [.str k, .int x])) (.ref tt) (bkD (k, x)) := tp_new htt (.cons (.txt _) (.cons (.num _) .nil))
  generalize upd H1 tt (.tup [.str k, .int x]) = H2 at sn tp ⊢
  have e2 := sn _ _ e
  have ha0 := lo.a0 as[r] (List.getElem_mem hra)
  refine ⟨as[r], us, .ref tt, rfl, rfl, e2, by have := sizeLine_eq; omega, ?_⟩
  refine q r _ hr (((ba.trans b1).same sn).mut ha0 (hb0.ne_free ha0)) (((b1.ts hb).trans (Ts.of sn)).trans (Ts.lst e2)) (fun b o hb1 hb2 hbo => ?_) ((lo1.up sn).add (List.getElem?_eq_getElem hra) (List.getElem?_eq_getElem hr) e2 (t.up sn) tp)
  rw [upd_ne (fun z : b = as[r] => hb1 (by rw [z]; exact List.getElem_mem hra))]
  exact sn _ _ (b1.off _ _ hb2 hbo)
end
theorem Lots.mut {H0 H : Hp} {l q : Addr} {as : List Addr} {L : List Sh} {ws ws' : List V} (lo : Lots H0 H l as L) (h1 : l ≠ q) (h2 : q ∉ as) (e : H q = some (.lst ws)) : Lots H0 (upd H q (.lst ws')) l as L :=
  ⟨by rw [upd_ne h1]; exact lo.lst, lo.len, lo.nd, lo.nl, lo.l0, lo.a0, fun j a r g1 g2 => by
    obtain ⟨us, e1, t⟩ := lo.row j a r g1 g2
    exact ⟨us, by rw [upd_ne (fun z : a = q => h2 (by rw [← z]; exact List.mem_of_getElem? g1))]; exact e1, t.mono (Ts.lst e)⟩⟩
theorem cnt_nd {l : List Rw} (hn : (l.map (·.1)).Nodup) {p : Rw} (hp : p ∈ l) : cnt l p.1 = p.2 := by
  induction l with
  | nil => cases hp
  | cons q l ih =>
    rw [List.map_cons] at hn
    obtain ⟨h1, h2⟩ := List.nodup_cons.mp hn
    rw [cnt_cons]
    rcases List.mem_cons.mp hp with rfl | hp
    · rw [if_pos rfl, cnt_zero h1]; omega
    · rw [if_neg (fun e => h1 (by rw [e]; exact List.mem_map.mpr ⟨p, hp, rfl⟩)), ih h2 hp]; omega
theorem its_facts {S : List Sh} {n : Nat} (g : Gd S n) : (srtR (sumsP (flat S))).length ≤ 5 ∧ (∀ p ∈ srtR (sumsP (flat S)), 0 ≤ p.2 ∧ p.2 ≤ 1000 ∧ OkT p.1) ∧ ∀ z, cnt (srtR (sumsP (flat S))) z = cnt (flat S) z := by
  obtain ⟨h1, h2, h3⟩ := sumsP_ok (flat S)
  refine ⟨?_, fun p hp => ?_, fun z => by rw [cnt_perm (srtR_perm _), h3]⟩
  · rw [(srtR_perm _).length_eq]
    have : (sumsP (flat S)).length = ((sumsP (flat S)).map (·.1)).length := by rw [List.length_map]
    rw [this]
    exact Nat.le_trans (nodup_len h1 fun k hk => mem_flat.mpr ((h2 k).mp hk)) g.kinds
  · have hp' := (srtR_perm _).mem_iff.mp hp
    have e := cnt_nd h1 hp'
    rw [h3] at e
    have hk := (h2 p.1).mp (List.mem_map.mpr ⟨p, hp', rfl⟩)
    obtain ⟨q, hq, e2⟩ := List.mem_map.mp hk
    obtain ⟨s, hs, hq⟩ := List.mem_flatMap.mp hq
    refine ⟨?_, by rw [← e]; exact g.cnt _, by rw [← e2]; exact g.ok s hs q hq⟩
    rw [← e]
    exact cnt_nonneg (fun p hp => Int.le_of_lt (pos_flat g.pos p hp)) _
/-- each row strewn -/
def PmA : List Sh → List Sh → Prop
  | [], [] => True
  | r :: R, s :: L => r.Perm s ∧ PmA R L
  | _, _ => False
theorem PmA.snoc {r s : Sh} (h : r.Perm s) : ∀ {R L : List Sh}, PmA R L → PmA (R ++ [r]) (L ++ [s])
  | [], [], _ => ⟨h, True.intro⟩
  | _ :: _, _ :: _, g => ⟨g.1, PmA.snoc h g.2⟩
theorem PmA.len : ∀ {R L : List Sh}, PmA R L → R.length = L.length
  | [], [], _ => rfl
  | _ :: _, _ :: _, g => by rw [List.length_cons, List.length_cons, PmA.len g.2]
theorem PmA.cnt (z : Str) : ∀ {R L : List Sh}, PmA R L → Nn L → cnt (flat (R.map putTog)) z = K8.cnt (flat L) z ∧ (flat (R.map putTog)).length ≤ (flat L).length
  | [], [], _, _ => ⟨rfl, Nat.le_refl _⟩
  | r :: R, s :: L, g, hn => by
    obtain ⟨h1, h2⟩ := PmA.cnt z g.2 fun t ht => hn t (List.mem_cons_of_mem _ ht)
    rw [List.map_cons, flat_cons, flat_cons, cnt_app, cnt_app, h1, List.length_append, List.length_append]
    have hs := hn s List.mem_cons_self
    rw [putTog_cnt z fun p hp => (hs p (g.1.mem_iff.mp hp)).1, cnt_perm g.1]
    refine ⟨rfl, ?_⟩
    have h3 := putTog_len r
    have h4 := g.1.length_eq
    omega
theorem q_some {σ : L2.St} {H : Hp} {bx : Addr} {c : Nat} {t rem : Int} (h0 : σ[0]? = some (some (.ref bx))) (h6 : σ[6]? = some (some (.int t))) (h5 : σ[5]? = some (some (.int rem))) (hb : Bx bx (c + 1) H) (r0 : 0 ≤ rem) (r1 : rem ≤ 1000) {Q : VK} (q : ∀ x H', 0 ≤ x → x ≤ rem → Ba bx 1 H H' → Q (.int x) H') :
    tIf (tTest (tOp rEq (tVar 6) (tC (.int 2)))) (tVar 5) (tCall spTake [] E0 (tCons (tVar 0) (tCons (tOp (rI0 fun i j => V.int (i + j)) (tVar 5) (tC (.int 1))) tNil))) σ H Q := by
  by_cases ht : t = 2
  · exact ⟨.int t, h6, rfl, true, by rw [ht]; rfl, go_t ⟨.int rem, h5, q rem H r0 (Int.le_refl _) (Ba.refl.le (Nat.zero_le _))⟩⟩
  · exact ⟨.int t, h6, rfl, false, congrArg V.bl (decide_eq_false fun z => ht (V.int.inj z)), go_f ⟨.ref bx, h0, .int rem, h5, rem, 1, rfl, rfl, bx, rem + 1, c, rfl, hb, by omega, by omega, fun r H' q1 q2 b => q r H' q1 (by omega) b⟩⟩
theorem flat_nils (S : List Sh) : flat (S.map fun _ => ([] : Sh)) = [] := by
  induction S with
  | nil => rfl
  | cons s S ih => exact ih
abbrev nShare : List Str := ["_law_box_here", "_law_here", "_law_lots_here", "_law_plank", "_law_sort", "_law_size", "_law_turn", "_law_some", "_law_lot"]
theorem sc_Share : FnScope nShare ["_law_box_here", "_law_here"] (defScope (K81.top 32)) := ⟨rfl, rfl, rfl, by decide +kernel, rfl, by decide +kernel, by decide +kernel⟩
def spShare : Sp := fun vs H Q _ => ∃ (bx : Addr) (v : V) (S : List Sh) (n c : Nat), vs = [.ref bx, v] ∧ Tp H v (stD S) ∧ Gd S n ∧ n ≤ 100 ∧ Bx bx (c + 60) H ∧ ∀ t H' (T : List Sh), Ba bx 60 H H' → Tp H' t (stD T) → Gd T 20 → Kept S T → Q t H'
section
variable {P : Program} {w : World} {K : PySem.W.Frag} {mg : Str → Option Value} {base : Heap}
theorem cal_Share (B : Bi mg) (D : DfE K mg "_law_shared" 32) (CLTake : Cal P w K mg base "_law_take" 1 ["_law_box_here", "_law_bound"] spTake) (CLStrewn : Cal P w K mg base "_law_strewn" 2 ["_law_box_here", "_law_things"] spStrewn) (CLPutTogether : Cal P w K mg base "_law_put_together" 1 ["_law_rows"] spTog) (CLSums : Cal P w K mg base "_law_sums" 1 ["_law_here"] spSums) :
    Cal P w K mg base "_law_shared" 3 ["_law_box_here", "_law_here"] spShare := by
  obtain ⟨f, fd, D⟩ := D
  have nd := sc_Share.nd
  refine D.cal (D.F.ok sc_Share (fun vs H Q E h => ?_) fun cdv A outer s H vs Q E hr h => ⟨_, PSs.nox
    ((pss_cons (ps_setLc (i := 2) (wi := (iTup K _)) (g := (gName 3)) (tt := tYes) (te := _) rfl nd rfl rfl (sw_true rfl rfl rfl (by kernel_rfl)) (pi_tup (pv 1)) (blkOk_by (own := [("_law_plank", 3)]) (by kernel_rfl)) (fun _ _ _ _ _ => (pg_name (i := 3) nd rfl (by first | exact Or.inl rfl | exact Or.inr rfl))) (fun _ _ _ _ _ => pts_nil) (fun _ _ _ _ _ => (pe_lst pa_nil)))
      (pss_cons (ps_for PassesOwn.never rfl (pi_list (pe_callB (cr_sortI8 rfl hr.units) rfl B.sorted boot_sorted (pa_cons (pe_items (pe_callC CLSums (hr.mono (by decide)) (pa_cons (pv 1) pa_nil))) pa_nil))) (pg_tup rfl (pgs_cons (pg_name (i := 4) nd rfl (by first | exact Or.inl rfl | exact Or.inr rfl)) (pgs_cons (pg_name (i := 5) nd rfl (by first | exact Or.inl rfl | exact Or.inr rfl)) pgs_nil))) (pss_cons (ps_for PassesOwn.never rfl (pi_range1 rfl B.range (pa_cons (pe_op op_add pe_int (pe_callC CLTake (hr.mono (by decide)) (pa_cons (pv 0) (pa_cons pe_int pa_nil)))) pa_nil)) (pg_name (i := 6) nd rfl (by first | exact Or.inl rfl | exact Or.inr rfl)) (pss_cons (ps_set (i := 7) nd rfl (by first | exact Or.inl rfl | exact Or.inr rfl) (pe_ifExp (pt_cmpR op_eq (pv 6) pe_int (nomark _)) (pv 5) (pe_callC CLTake (hr.mono (by decide)) (pa_cons (pv 0) (pa_cons (pe_op op_add (pv 5) pe_int) pa_nil)))))
      (pss_cons (ps_expr (pe_bm PySem.F.plainAttrs_list PySem.F.slot_list_append PySem.F.type_list_append mt_append (pe_ix ix_list (pv 2) (pe_callC CLTake (hr.mono (by decide)) (pa_cons (pv 0) (pa_cons (pe_callB call_len_seq rfl B.len PySem.boot_len (pa_cons (pv 2) pa_nil)) pa_nil))) (fun _ _ => rfl)) (pa_cons (pe_tup (pa_cons (pv 4) (pa_cons (pv 7) pa_nil))) pa_nil)))
      (pss_one (ps_set (i := 5) nd rfl (by first | exact Or.inl rfl | exact Or.inr rfl) (pe_op op_sub (pv 5) (pv 7)))))))
      (pss_one (ps_expr (pe_bm PySem.F.plainAttrs_list PySem.F.slot_list_append PySem.F.type_list_append mt_append (pe_ix ix_list (pv 2) (pe_callC CLTake (hr.mono (by decide)) (pa_cons (pv 0) (pa_cons (pe_callB call_len_seq rfl B.len PySem.boot_len (pa_cons (pv 2) pa_nil)) pa_nil))) (fun _ _ => rfl)) (pa_cons (pe_tup (pa_cons (pv 4) (pa_cons (pv 5) pa_nil))) pa_nil))))))
      (pss_one (ps_ret (pe_callTy call_tuple_of rfl B.tuple boot_tuple (pa_cons (pe_lc (wi := (iList K _)) (g := (gName 8)) (tt := tYes) (te := _) rfl nd (pi_list (pv 2)) (blkOk_by (own := [("_law_lot", 8)]) (by kernel_rfl)) (fun _ _ _ _ _ => (pg_name (i := 8) nd rfl (by first | exact Or.inl rfl | exact Or.inr rfl))) (fun _ _ _ _ _ => pts_nil) (fun _ _ _ _ _ => (pe_callC CLPutTogether (hr.mono (by decide)) (pa_cons (pe_callC CLStrewn (hr.mono (by decide)) (pa_cons (pv 0) (pa_cons (pv 8) pa_nil))) pa_nil)))) pa_nil))))))), ?_⟩)
    (fun kV doc pm an cdv ct us hl => match us, hl with | [_, _], _ => rfl)
  · obtain ⟨bx, v, S, n, c, rfl, _⟩ := h; rfl
  · obtain ⟨bx, v, S, n, c, rfl, tv, gd, hn, hb, hq⟩ := h
    obtain ⟨i5, itf, itc⟩ := its_facts gd
    have hb0 : Bx bx 0 H := hb.le (Nat.zero_le _)
    have fw : Few S := gd.few (by omega)
    obtain ⟨va, vxs, rfl, hva, tvx⟩ := tv.tup_inv
    have hvl : vxs.length = S.length := by rw [tvx.length, List.length_map]
    refine ⟨.ref va, rfl, va, rfl, ⟨vxs, .inl hva⟩, fun l hl => ?_⟩
    have hlb := hb.ne_free hl
    refine lc_tup (xs := vxs) (fun i H' => Same H H' ∧ ∃ as : List Addr, H' l = some (.lst (as.map V.ref)) ∧ as.length = i ∧ as.Nodup ∧ l ∉ as ∧ (∀ a ∈ as, H a = none) ∧ ∀ a ∈ as, H' a = some (.lst [])) ?_ ?_ ?_ ?_
    · exact ⟨same_D (Same.refl _) hl, [], by simp [upd], rfl, List.nodup_nil, fun h => (nomatch h), fun a h => (nomatch h), fun a h => (nomatch h)⟩
    · rintro i H' _ ⟨s1, _⟩
      exact .inl (rd_up s1 hva)
    · rintro i x H' hx ⟨s1, as, el, hal, nda, nla, ha0, hae⟩
      refine ⟨rfl, ?_⟩
      refine yes_go ?_
      refine ⟨Nat.zero_le _, fun a ha => ?_⟩
      have s2 := same_new (o := .lst []) ha
      have hla : l ≠ a := fun z => by rw [← z, el] at ha; cases ha
      have haa : a ∉ as := fun z => by rw [hae a z] at ha; cases ha
      have hil : i < vxs.length := (List.getElem?_eq_some_iff.mp hx).1
      have := gd.len4
      refine ⟨as.map V.ref, s2 _ _ el, by rw [List.length_map, sizeLine_eq]; omega, same_D (s1.trans s2) hl, as ++ [a], by simp [upd], by rw [List.length_append, hal]; rfl, ?_, ?_, ?_, ?_⟩
      · rw [List.nodup_append]
        exact ⟨nda, List.nodup_cons.mpr ⟨fun h => (nomatch h), List.nodup_nil⟩, fun x hx y hy z => haa (by rw [List.mem_singleton.mp hy] at z; rw [← z]; exact hx)⟩
      · intro z
        rcases List.mem_append.mp z with z | z
        · exact nla z
        · exact hla (List.mem_singleton.mp z)
      · intro b hb'
        rcases List.mem_append.mp hb' with z | z
        · exact ha0 b z
        · rw [List.mem_singleton.mp z]; exact s1.free ha
      · intro b hb'
        rcases List.mem_append.mp hb' with z | z
        · rw [upd_ne (fun q : b = l => nla (by rw [← q]; exact z))]
          exact s2 _ _ (hae b z)
        · rw [List.mem_singleton.mp z, upd_ne (Ne.symm hla)]
          simp [upd]
    rintro H1 ⟨s1, as, el, hal, nda, nla, ha0, hae⟩
    refine q_gu ?_
    have lo : Lots H H1 l as (S.map fun _ => []) := ⟨el, by rw [hal, hvl, List.length_map], nda, nla, hl, ha0, fun j a r g1 g2 => by
      refine ⟨[], hae a (List.mem_of_getElem? g1), ?_⟩
      rw [List.getElem?_map] at g2
      cases e : S[j]? with
      | none => rw [e] at g2; cases g2
      | some z => rw [e] at g2; rw [← Option.some.inj g2]; exact .nil⟩
    have hb1 := hb.up s1
    have tv1 := tv.up s1
    refine q_nx ?_
    refine tFor_list ?_
    refine el_items (G := fun H' => Same H1 H') (l := sumsP (flat S)) (er_sums (S := S) (ed_var rfl fun H' s => tv1.up s) fw) (by rw [← (srtR_perm (sumsP (flat S))).length_eq]; omega) H1 (Same.refl _) _ fun p us H2 hp s2 ep tp => ?_
    generalize hits : srtR (sumsP (flat S)) = its at i5 itf itc tp
    have hpl : p ≠ l := fun z => by rw [z, el] at hp; cases hp
    have hpa : p ∉ as := fun z => by rw [hae p z] at hp; cases hp
    have hpb : p ≠ bx := hb1.ne_free hp
    have lo2 := lo.up s2
    have hb2 := hb1.up s2
    refine ⟨p, rfl, ⟨us, .inl (.inl ep)⟩, ?_⟩
    refine fo_list (xs := its) (mk := bkD) (us := us) (fun i τ H' => ∃ (L : List Sh) (o3 o4 o5 o6 o7 o8 : Option V), τ = [some (.ref bx), some (.ref va), some (.ref l), o3, o4, o5, o6, o7, o8] ∧ Lots H H' l as L ∧ L.length = S.length ∧ Nn L ∧ (flat L).length ≤ i * 4 ∧ (∀ z, cnt (flat L) z = cnt (its.take i) z) ∧ Ba bx (i * 8) H H' ∧ H' p = some (.lst us) ∧ Ts H2 H') ?_ ?_ ?_ ?_
    · refine ⟨_, none, none, none, none, none, none, rfl, lo2, List.length_map .., fun s hs => ?_, ?_, fun z => ?_, (Ba.of (s1.trans s2)).le (by omega), ep, Ts.of (Same.refl _)⟩
      · obtain ⟨_, _, rfl⟩ := List.mem_map.mp hs
        exact fun p h => (nomatch h)
      · rw [flat_nils]; exact Nat.le_refl _
      · rw [flat_nils]; rfl
    · rintro i τ H' ⟨L, o3, o4, o5, o6, o7, o8, rfl, lo', hL, hN, hfl, hc, ba, e, t⟩
      exact ⟨e, tp.mono t⟩
    · rintro i ⟨k, n⟩ τ H' x hx hxm ⟨L, o3, o4, o5, o6, o7, o8, rfl, lo', hL, hN, hfl, hc, ba, e, t⟩ tx
      obtain ⟨n0, n1, kok⟩ := itf _ hxm
      have hi : i < its.length := (List.getElem?_eq_some_iff.mp hx).1
      refine eg_pair tx (P := fun τ Hx => _) (fun uk un tk tn => ?_) _ fun τ2 Hx q => q
      have e1 := tk.txt_inv
      have e2 := tn.num_inv
      subst e1
      subst e2
      have hbi : Bx bx (c + 60 - i * 8) H' := ba.box _ (hb.le (by omega))
      refine tFor_rng ?_
      refine ⟨.ref bx, rfl, bx, 3, c + 60 - i * 8 - 1, rfl, hbi.le (by omega), by decide, by decide, fun r H3 q1 q2 b3 => ?_⟩
      obtain ⟨r, rfl⟩ := Int.eq_ofNat_of_zero_le q1
      have hr : r < 3 := by omega
      refine ⟨1, (r : Nat), rfl, rfl, 1 + (r : Nat), rfl, by omega, by omega, ?_⟩
      have er : ((1 : Int) + (r : Nat)).toNat = r + 1 := by omega
      rw [er]
      refine fo_rng (fun j τ H'' => ∃ (L : List Sh) (rem : Int) (o6 o7 : Option V), τ = [some (.ref bx), some (.ref va), some (.ref l), o3, some (.str k), some (.int rem), o6, o7, o8] ∧ Lots H H'' l as L ∧ L.length = S.length ∧ Nn L ∧ (flat L).length ≤ i * 4 + j ∧ 0 ≤ rem ∧ rem ≤ 1000 ∧ (∀ z, cnt (flat L) z + (if k = z then rem else 0) = cnt (its.take i) z + (if k = z then n else 0)) ∧ Ba bx (i * 8 + 1 + j * 2) H H'' ∧ H'' p = some (.lst us) ∧ Ts H2 H'') ?_ ?_ ?_
      · exact ⟨L, n, o6, o7, rfl, lo'.ba hb0 b3 hbi, hL, hN, by omega, n0, n1, fun z => by rw [hc z], (ba.trans b3).le (by omega), b3.off _ _ hpb e, t.trans (b3.ts hbi)⟩
      · rintro j τ H4 hj ⟨L, rem, o6, o7, rfl, lo4, hL4, hN4, hfl4, r0, r1, hc4, ba4, e4, t4⟩
        have hb4 : Bx bx (c + 60 - i * 8 - 1 - j * 2) H4 := ba4.box _ (hb.le (by omega))
        refine q_seqAsg (q_some (t := (j : Nat)) (rem := rem) (c := c + 60 - i * 8 - 1 - j * 2 - 1) rfl rfl rfl (hb4.le (by omega)) r0 r1 fun x H5 x0 x1 b5 => q_gu ?_)
        have hb5 : Bx bx (c + 60 - i * 8 - 1 - j * 2 - 1) H5 := b5.box _ (hb4.le (by omega))
        refine q_lot (i := 7) (x := x) (k := k) (c := c + 60 - i * 8 - 1 - j * 2 - 2) rfl rfl rfl rfl hb0 (lo4.ba hb0 b5 hb4) (ba4.trans b5) (hb5.le (by omega)) (by rw [hL4]; exact gd.len1) (by rw [hL4]; exact gd.len4) (by omega) fun q H6 hq b6 t6 off6 lo6 => ?_
        refine q_nx ?_
        refine ⟨.int rem, rfl, .int x, rfl, rem, x, rfl, rfl, ?_⟩
        refine ⟨addLot L q (k, x), rem - x, _, _, rfl, lo6, by rw [addLot_len]; exact hL4, hN4.add q ⟨x0, kok⟩, ?_, by omega, by omega, fun z => ?_, b6.le (by omega), off6 _ _ hpa hpb (b5.off _ _ hpb e4), (t4.trans (b5.ts hb4)).trans t6⟩
        · have := addLot_rows (k, x) L q; omega
        · have h1 := hc4 z
          rw [addLot_cnt hq]
          split <;> rename_i hz <;> simp only [hz, if_true, if_false] at h1 <;> omega
      · rintro τ H4 ⟨L, rem, o6, o7, rfl, lo4, hL4, hN4, hfl4, r0, r1, hc4, ba4, e4, t4⟩
        have hb4 : Bx bx (c + 60 - i * 8 - 1 - (r + 1) * 2) H4 := ba4.box _ (hb.le (by omega))
        refine q_nx ?_
        refine q_lot (i := 5) (x := rem) (k := k) (c := c + 60 - i * 8 - 1 - (r + 1) * 2 - 1) rfl rfl rfl rfl hb0 lo4 ba4 (hb4.le (by omega)) (by rw [hL4]; exact gd.len1) (by rw [hL4]; exact gd.len4) (by omega) fun q H6 hq b6 t6 off6 lo6 => ?_
        refine ⟨addLot L q (k, rem), _, _, _, _, _, _, rfl, lo6, by rw [addLot_len]; exact hL4, hN4.add q ⟨r0, kok⟩, ?_, fun z => ?_, b6.le (by omega), off6 _ _ hpa hpb e4, t4.trans t6⟩
        · have := addLot_rows (k, rem) L q; omega
        · have h1 := hc4 z
          rw [addLot_cnt hq, List.take_add_one, hx]
          show _ = cnt (its.take i ++ [(k, n)]) z
          rw [cnt_app, cnt_one]
          exact h1
    · rintro τ H' ⟨L, o3, o4, o5, o6, o7, o8, rfl, lo', hL, hN, hfl, hc, ba, e, t⟩
      rw [List.take_length] at hc
      have hM : (flat L).length ≤ 20 := by omega
      have hbL : Bx bx (c + 20) H' := ba.box _ (hb.le (by omega))
      have l4 := gd.len4
      refine q_nx ?_
      refine ⟨.ref l, rfl, l, rfl, ⟨_, .inl (.inl lo'.lst)⟩, fun q hq' => ?_⟩
      have hqH : H q = none := ba.free hq' (fun z => by rw [z] at hq'; obtain ⟨_, _, _, e9, _⟩ := hbL; rw [hq'] at e9; cases e9)
      have hqb : q ≠ bx := hbL.ne_free hq'
      have hql : l ≠ q := fun z => by rw [← z, lo'.lst] at hq'; cases hq'
      have hqa : q ∉ as := fun z => by
        obtain ⟨j, hj⟩ := List.getElem?_of_mem z
        have hj2 : j < L.length := by rw [← lo'.len]; exact (List.getElem?_eq_some_iff.mp hj).1
        obtain ⟨us', e', _⟩ := lo'.row j q L[j] hj (List.getElem?_eq_getElem hj2)
        rw [e'] at hq'; cases hq'
      have s9 := same_new (o := .lst []) hq'
      refine lc_list (xs := as.map V.ref) (fun i H9 => ∃ (R : List Sh) (acc : List V), i ≤ L.length ∧ PmA R (L.take i) ∧ Ba bx (40 + (flat (L.take i)).length) H H9 ∧ Lots H H9 l as L ∧ H9 q = some (.lst acc) ∧ TpA H9 acc ((R.map putTog).map shD)) ?_ ?_ ?_ ?_
      · exact ⟨[], [], Nat.zero_le _, True.intro, ((ba.le (by omega)).mut hqH hqb), lo'.up s9, by simp [upd], .nil⟩
      · rintro i H9 _ ⟨R, acc, _, _, _, lo9, _⟩
        exact .inl (.inl lo9.lst)
      · rintro i x H9 hx ⟨R, acc, hiL, pm, b9, lo9, e9, t9⟩
        have hia : i < as.length := by
          have := (List.getElem?_eq_some_iff.mp hx).1
          rwa [List.length_map] at this
        have hx' : x = .ref as[i] := by
          rw [List.getElem?_map, List.getElem?_eq_getElem hia] at hx
          exact (Option.some.inj hx).symm
        subst hx'
        have hiL' : i < L.length := by rw [← lo9.len]; exact hia
        obtain ⟨us9, ea, ta⟩ := lo9.row i as[i] L[i] (List.getElem?_eq_getElem hia) (List.getElem?_eq_getElem hiL')
        have htk : L.take (i + 1) = L.take i ++ [L[i]] := by rw [List.take_add_one, List.getElem?_eq_getElem hiL']; rfl
        have hfl9 : (flat (L.take i)).length + L[i].length ≤ 20 := by
          refine Nat.le_trans ?_ hM
          conv => rhs; rw [← List.take_append_drop (i + 1) L]
          rw [flat_app, List.length_append, htk, flat_app, List.length_append]
          show _ + _ ≤ _ + (L[i] ++ []).length + _
          rw [List.append_nil]
          omega
        have hNi := hN L[i] (List.getElem_mem hiL')
        have hb9 : Bx bx (c + L[i].length) H9 := b9.box _ (hb.le (by omega))
        refine ⟨rfl, ?_⟩
        refine yes_go ?_
        refine ⟨.ref bx, rfl, .ref as[i], rfl, bx, as[i], us9, L[i], c, rfl, ea, ta, by omega, fun p hp => (hNi p hp).2, hb9, fun p' ws H10 rows' hp' b10 e10 t10 pm10 => ?_⟩
        refine ⟨p', ws, rows', rfl, e10, t10, by have := pm10.length_eq; omega, fun p hp => (hNi p (pm10.mem_iff.mp hp)).2, fun v H11 s11 t11 => ?_⟩
        have e11 : H11 q = some (.lst acc) := s11 _ _ (b10.off _ _ hqb e9)
        have ts := (b10.ts hb9).trans (Ts.of s11)
        have hR : R.length = i := by rw [pm.len, List.length_take]; omega
        refine ⟨acc, e11, by rw [t9.length, List.length_map, List.length_map, sizeLine_eq]; omega, R ++ [rows'], acc ++ [v], hiL', by rw [htk]; exact PmA.snoc pm10 pm, ?_, ((lo9.ba hb0 b10 hb9).up s11).mut hql hqa e11, by simp [upd], ?_⟩
        · rw [htk, flat_app, List.length_append]
          show Ba bx (40 + (_ + (L[i] ++ []).length)) _ _
          rw [List.append_nil, ← Nat.add_assoc]
          exact (((b9.trans b10).same s11).mut hqH hqb)
        · rw [List.map_append, List.map_append]
          exact ((t9.mono ts).snoc t11).mono (Ts.lst e11)
      · rintro H9 ⟨R, acc, hiL, pm, b9, lo9, e9, t9⟩
        rw [List.length_map, lo9.len, List.take_length] at pm b9
        refine ⟨q, acc, rfl, .inl ⟨.inl (.inl e9), fun tt htt => ?_⟩⟩
        have hT : (R.map putTog).length = S.length := by rw [List.length_map, pm.len, hL]
        have hcT := fun z => pm.cnt z hN
        have kT : Kept S (R.map putTog) := ⟨hT, fun z => by rw [(hcT z).1, hc z, itc z]⟩
        refine hq (.ref tt) _ (R.map putTog) ((b9.same (same_new htt)).le (by omega)) (tp_new htt t9) (gd_kept gd kT (fun s hs => ?_) (Nat.le_trans (hcT ⟨#[]⟩).2 hM)) kT
        obtain ⟨r, _, rfl⟩ := List.mem_map.mp hs
        exact putTog_pos r
end
end K8
end

section
set_option Elab.async false
set_option linter.all false
set_option maxRecDepth 100000
set_option maxHeartbeats 4000000
/-! K81: _law_is_in, _law_tail. -/
namespace K8
open PySem PySem.Spec PyProof.Rows L2
/-- one letter of a word on -/
def stepIn (ws : List Str) (a : Nat) (l : Str) : Nat := if ws[a]? = some l then a + 1 else a
theorem stepIn_le {ws : List Str} : ∀ {ks : List Str} {a : Nat}, a ≤ ws.length → ks.foldl (stepIn ws) a ≤ ws.length
  | [], a, h => h
  | k :: ks, a, h => by
    refine stepIn_le (ks := ks) (a := stepIn ws a k) ?_
    unfold stepIn
    by_cases e : ws[a]? = some k
    · rw [if_pos e]; exact (List.getElem?_eq_some_iff.mp e).1
    · rw [if_neg e]; exact h
theorem stepIn_sub {ws : List Str} : ∀ {ks : List Str} {a : Nat}, a ≤ ws.length → (ws.drop a).Sublist ks → ks.foldl (stepIn ws) a = ws.length
  | [], a, h, hs => by
    have := List.eq_nil_of_sublist_nil hs
    have h2 : (ws.drop a).length = 0 := by rw [this]; rfl
    rw [List.length_drop] at h2
    show a = ws.length
    omega
  | k :: ks, a, h, hs => by
    show ks.foldl (stepIn ws) (stepIn ws a k) = _
    by_cases e : ws[a]? = some k
    · obtain ⟨h1, h2⟩ := List.getElem?_eq_some_iff.mp e
      have e2 : stepIn ws a k = a + 1 := by unfold stepIn; rw [if_pos e]
      rw [e2]
      rw [List.drop_eq_getElem_cons h1, h2] at hs
      exact stepIn_sub h1 (List.cons_sublist_cons.mp hs)
    · have e2 : stepIn ws a k = a := by unfold stepIn; rw [if_neg e]
      rw [e2]
      refine stepIn_sub h ?_
      by_cases h1 : a < ws.length
      · rw [List.drop_eq_getElem_cons h1] at hs ⊢
        rw [List.getElem?_eq_getElem h1] at e
        cases hs with
        | cons _ h => exact h
        | cons_cons _ h => exact absurd rfl e
      · rw [List.drop_eq_nil_of_le (by omega)]
        exact List.nil_sublist _
/-- a row that stays where it is -/
def stays (S : List Sh) (loan : Int) (k : Str) : Bool := decide (1 < (spotsOf S k).length) || decide (loan < cnt (flat S) k)
def tailN (S : List Sh) (loan : Int) (s : Sh) : Nat := (s.reverse.takeWhile fun p => !stays S loan p.1).length
theorem take_all {α : Type} {p : α → Bool} : ∀ {l : List α} {i : Nat} {x : α}, (∀ j y, j < i → l[j]? = some y → p y = true) → l[i]? = some x → p x = false → (l.takeWhile p).length = i
  | [], i, x, _, h, _ => by cases i <;> cases h
  | y :: l, 0, x, _, h, hp => by
    obtain rfl := Option.some.inj (show some y = some x from h)
    rw [List.takeWhile_cons, hp]; rfl
  | y :: l, i + 1, x, h0, h, hp => by
    have hy := h0 0 y (Nat.succ_pos _) rfl
    rw [List.takeWhile_cons, hy]
    have := take_all (l := l) (i := i) (x := x) (fun j z hj hz => h0 (j + 1) z (Nat.succ_lt_succ hj) hz) h hp
    show _ + 1 = _
    rw [this]
theorem take_whole {α : Type} {p : α → Bool} : ∀ {l : List α}, (∀ j y, j < l.length → l[j]? = some y → p y = true) → (l.takeWhile p).length = l.length
  | [], _ => rfl
  | y :: l, h => by
    rw [List.takeWhile_cons, h 0 y (Nat.succ_pos _) rfl]
    show _ + 1 = _ + 1
    rw [take_whole (l := l) fun j z hj hz => h (j + 1) z (Nat.succ_lt_succ hj) hz]
theorem ed_revT {G : Hp → Prop} {te : TE} {σ : L2.St} {K : PySem.W.Frag} {ds : List Dt} (h : EvD G te σ (.tup ds)) : EvD G (tRevT K te) σ (.tup ds.reverse) := fun H1 g Q q =>
  h H1 g _ fun v H2 s t => by
    obtain ⟨a, xs, rfl, hr, ht⟩ := t.tup_inv
    exact ⟨a, xs, rfl, .inl hr, fun p hp => q _ _ (s.trans (same_new hp)) (tp_new hp ht.reverse)⟩
theorem ed_intB {G : Hp → Prop} {te : TE} {σ : L2.St} {b : Bool} (h : EvB G te σ b) : EvD G (tCB (fun xs H Q => (∃ i, xs = [V.int i] ∧ Q (V.int i) H) ∨ ∃ k, xs = [V.bl k] ∧ Q (V.int (if k = true then 1 else 0)) H) (tCons te tNil)) σ (.num (if b = true then 1 else 0)) := fun H1 g Q q =>
  h H1 g _ fun v H2 s e => .inr ⟨b, by rw [e], q _ H2 s (.num _)⟩
abbrev nIsIn : List Str := ["_law_wish", "_law_word_here", "_law_at", "_law_letter"]
theorem sc_IsIn : FnScope nIsIn ["_law_wish", "_law_word_here"] (defScope (K81.top 34)) := ⟨rfl, rfl, rfl, by decide +kernel, rfl, by decide +kernel, by decide +kernel⟩
def spIsIn : Sp := fun vs H Q _ => ∃ (v u : V) (ws ks : List Str), vs = [v, u] ∧ Tp H v (.tup (ws.map NestedKey.text)) ∧ Tp H u (.tup (ks.map NestedKey.text)) ∧ ws.length ≤ 1000 ∧ ks.length ≤ 1000 ∧ (∀ k ∈ ws, OkT k) ∧ (∀ k ∈ ks, OkT k) ∧ ∀ b H', Same H H' → (ws.Sublist ks → b = true) → Q (.bl b) H'
abbrev nTail : List Str := ["_law_here", "_law_at", "_law_loan", "_law_size", "_law_plank", "_law_sums_here", "_law_sort", "_law_books"]
theorem sc_Tail : FnScope nTail ["_law_here", "_law_at", "_law_loan"] (defScope (K81.top 35)) := ⟨rfl, rfl, rfl, by decide +kernel, rfl, by decide +kernel, by decide +kernel⟩
def spTail : Sp := fun vs H Q _ => ∃ (v : V) (S : List Sh) (a : Nat) (s : Sh) (loan : Int), vs = [v, .int (a : Nat), .int loan] ∧ Tp H v (stD S) ∧ S[a]? = some s ∧ Few S ∧ OkS S ∧ ∀ H', Same H H' → Q (.int (tailN S loan s : Nat)) H'
section
variable {P : Program} {w : World} {K : PySem.W.Frag} {mg : Str → Option Value} {base : Heap}
theorem cal_IsIn (B : Bi mg) (D : DfE K mg "_law_is_in" 34) : Cal P w K mg base "_law_is_in" 1 ["_law_wish", "_law_word_here"] spIsIn := by
  obtain ⟨f, fd, D⟩ := D
  have nd := sc_IsIn.nd
  refine D.cal (D.F.ok sc_IsIn (fun vs H Q E h => ?_) fun cdv A outer s H vs Q E hr h => ⟨_, PSs.nox
    ((pss_cons (ps_set (i := 2) nd rfl (by first | exact Or.inl rfl | exact Or.inr rfl) pe_int)
      (pss_cons (ps_for PassesOwn.never rfl (pi_tup (pv 1)) (pg_name (i := 3) nd rfl (by first | exact Or.inl rfl | exact Or.inr rfl)) (pss_one (ps_set (i := 2) nd rfl (by first | exact Or.inl rfl | exact Or.inr rfl) (pe_op op_add (pv 2) (pe_callTy call_int1 rfl B.int boot_int (pa_cons (pe_and (pe_cmpR op_lt (pv 2) (pe_callB call_len_seq rfl B.len PySem.boot_len (pa_cons (pv 0) pa_nil)) (nomark _)) (pe_one (pe_cmpR op_eq (pe_ix ix_tup (pv 0) (pv 2) (fun _ _ => rfl)) (pv 3) (nomark _)))) pa_nil))))))
      (pss_one (ps_ret (pe_cmpR op_eq (pv 2) (pe_callB call_len_seq rfl B.len PySem.boot_len (pa_cons (pv 0) pa_nil)) (nomark _))))))), ?_⟩)
    (fun kV doc pm an cdv ct us hl => match us, hl with | [_, _], _ => rfl)
  · obtain ⟨v, u, ws, ks, rfl, _⟩ := h; rfl
  · obtain ⟨v, u, ws, ks, rfl, tv, tu, l1, l2, o1, o2, hq⟩ := h
    refine q_asgD (G := fun H' => Same H H') ed_int (Same.refl H) fun v0 H1 s1 t0 => ?_
    cases t0
    refine q_forI (G := fun H' => Same H1 H') (xs := ks) (mk := NestedKey.text) (ei_tup (ed_var rfl fun H' s => (tu.up s1).up s)).ei (Same.refl H1) (fun H2 i τ H' => ∃ o3, τ = [some v, some u, some (.int ((ks.take i).foldl (stepIn ws) 0 : Nat)), o3] ∧ Same H2 H' ∧ Same H H') ?_ ?_ ?_ ?_
    · exact fun H2 s2 => ⟨none, rfl, Same.refl _, s1.trans s2⟩
    · rintro H2 s2 i τ H' ⟨_, _, t, _⟩; exact t
    · rintro H2 s2 i l τ H' H'' x hl hlm ⟨o3, rfl, t, sH⟩ s3 tx
      refine eg_name ?_
      have e1 := tx.txt_inv
      subst e1
      generalize hA : (ks.take i).foldl (stepIn ws) 0 = a
      have hle : a ≤ ws.length := by rw [← hA]; exact stepIn_le (Nat.zero_le _)
      have hnx : (ks.take (i + 1)).foldl (stepIn ws) 0 = stepIn ws a l := by
        rw [List.take_add_one, hl, Option.toList_some, List.foldl_append, hA]; rfl
      refine q_asgD (G := fun H3 => Same H'' H3) (d := .num ((ks.take (i + 1)).foldl (stepIn ws) 0 : Nat)) (EvD.to (ed_op (ed_var rfl fun _ _ => .num _) (ed_intB (b := decide ((a : Int) < (ws.length : Int)) && decide (ws[a]? = some l)) (eb_and (eb_op (ed_var rfl fun _ _ => .num _) (EvD.to (ed_len (ed_var rfl fun H3 s => (tv.up (sH.trans s3)).up s)) (by rw [List.length_map])) rb_I0) fun ha => ?_)) rd_I0) ?_) (Same.refl H'') fun w3 H3 s4 t4 => ?_
      · have ha' : a < ws.length := by have := of_decide_eq_true ha; omega
        refine EvB.to (eb_op (ed_ix (d := .text ws[a]) (ed_var rfl fun H3 s => (tv.up (sH.trans s3)).up s) (ed_var rfl fun _ _ => .num _) (atI_nat (by rw [List.getElem?_map, List.getElem?_eq_getElem ha']; rfl))) (ed_var rfl fun _ _ => .txt l) rb_eqS) ?_
        rw [List.getElem?_eq_getElem ha', decide_eq_decide]
        exact ⟨fun z => by rw [z], fun z => Option.some.inj z⟩
      · rw [hnx]
        unfold stepIn
        by_cases h1 : ws[a]? = some l
        · have h2 : a < ws.length := (List.getElem?_eq_some_iff.mp h1).1
          rw [if_pos h1, decide_eq_true h1, decide_eq_true (show (a : Int) < (ws.length : Int) by omega)]
          rfl
        · rw [if_neg h1, decide_eq_false h1, Bool.and_false]
          simp
      · cases t4
        exact ⟨_, rfl, (t.trans s3).trans s4, (sH.trans s3).trans s4⟩
    · rintro H2 s2 τ H' ⟨o3, rfl, t, sH⟩
      rw [List.take_length]
      generalize hA : ks.foldl (stepIn ws) 0 = a
      refine q_nx ?_
      refine eb_op (G := fun H3 => Same H' H3) (b := decide ((a : Int) = (ws.length : Int))) (ed_var rfl fun _ _ => .num _) (EvD.to (ed_len (ed_var rfl fun H3 s => (tv.up sH).up s)) (by rw [List.length_map])) rb_eqI H' (Same.refl _) _ fun b H3 s3 e => ?_
      subst e
      exact hq _ H3 (sH.trans s3) fun hsub => decide_eq_true (by rw [← hA, stepIn_sub (Nat.zero_le _) hsub])
theorem cal_Tail (B : Bi mg) (D : DfE K mg "_law_tail" 35) (CLSums : Cal P w K mg base "_law_sums" 1 ["_law_here"] spSums) (CLSpots : Cal P w K mg base "_law_spots" 1 ["_law_here", "_law_sort"] spSpots) : Cal P w K mg base "_law_tail" 2 ["_law_here", "_law_at", "_law_loan"] spTail := by
  obtain ⟨f, fd, D⟩ := D
  have nd := sc_Tail.nd
  refine D.cal (D.F.ok sc_Tail (fun vs H Q E h => ?_) fun cdv A outer s H vs Q E hr h => ⟨_, PSs.nox
    ((pss_cons (ps_par3 (i := 3) (j := 4) (l := 5) rfl nd rfl rfl rfl (by decide) (by decide) (by decide) rfl rfl rfl (pa_cons pe_int (pa_cons (pe_ix ix_tup (pv 0) (pv 1) (fun _ _ => rfl)) (pa_cons (pe_callC CLSums (hr.mono (by decide)) (pa_cons (pv 0) pa_nil)) pa_nil))) (by rfl))
      (pss_cons (ps_for PassesOwn.never rfl (pi_tup (pe_revT (pv 4))) (pg_tup rfl (pgs_cons (pg_name (i := 6) nd rfl (by first | exact Or.inl rfl | exact Or.inr rfl)) (pgs_cons (pg_name (i := 7) nd rfl (by first | exact Or.inl rfl | exact Or.inr rfl)) pgs_nil))) (pss_cons (ps_if (PW.pt (pw_or (pt_cmpR op_gt (pe_callB call_len_seq rfl B.len PySem.boot_len (pa_cons (pe_callC CLSpots (hr.mono (by decide)) (pa_cons (pv 0) (pa_cons (pv 6) pa_nil))) pa_nil)) pe_int (nomark _)) (pw_or1 (pt_cmpR op_gt (pe_dget (hu_of hr) (pv 5) (pv 6) (fun _ _ => rfl)) (pv 2) (nomark _))))) (pss_one (ps_ret (pv 3))) pss_nil)
      (pss_one (ps_set (i := 3) nd rfl (by first | exact Or.inl rfl | exact Or.inr rfl) (pe_op op_add (pv 3) pe_int)))))
      (pss_one (ps_ret (pv 3)))))), ?_⟩)
    (fun kV doc pm an cdv ct us hl => match us, hl with | [_, _, _], _ => rfl)
  · obtain ⟨v, S, a, s, loan, rfl, _⟩ := h; rfl
  · obtain ⟨v, S, a, s, loan, rfl, tv, hs, fw, ok, hq⟩ := h
    have so := sumsP_ok (flat S)
    have hat : atI (S.map shD) ((a : Nat) : Int) = some (shD s) := atI_nat (by rw [List.getElem?_map, hs]; rfl)
    have key : EvD (fun H' => Same H H') (tOp (rIxT K) (tVar 0) (tVar 1)) [some v, some (.int (a : Nat)), some (.int loan), none, none, none, none, none] (shD s) := ed_ix (ed_var rfl fun H' s => tv.up s) (ed_var rfl fun _ _ => .num _) hat
    refine key H (Same.refl _) _ fun pv H1 s1 tpv => ?_
    have key2 : EvR (fun H' => Same H1 H') (tCall spSums [] E0 (tCons (tVar 0) tNil)) [some v, some (.int (a : Nat)), some (.int loan), none, none, none, none, none] fun v H => ∃ d, v = .ref d ∧ H d = some (.dK (kvL (sumsP (flat S)))) := er_sums (S := S) (ed_var rfl fun H' s => (tv.up s1).up s) fw
    refine key2 H1 (Same.refl _) _ fun dv H2 s2 ⟨d, e, ed⟩ => ?_
    subst e
    refine ⟨_, _, _, rfl, ?_⟩
    have s02 := s1.trans s2
    refine q_nx ?_
    refine q_forI (G := fun H' => Same H2 H') (xs := s.reverse) (mk := bkD) (EvJ.ei (EvJ.to (ei_tup (ed_revT (ds := s.map bkD) (ed_var rfl fun H' s => (tpv.up s2).up s))) (by rw [List.map_reverse]))) (Same.refl H2) (fun H3 i τ H' => ∃ o6 o7, τ = [some v, some (.int (a : Nat)), some (.int loan), some (.int (i : Nat)), some pv, some (.ref d), o6, o7] ∧ Same H3 H' ∧ Same H H' ∧ H' d = some (.dK (kvL (sumsP (flat S)))) ∧ ∀ j y, j < i → s.reverse[j]? = some y → (!stays S loan y.1) = true) ?_ ?_ ?_ ?_
    · exact fun H3 s3 => ⟨none, none, rfl, Same.refl _, s02.trans s3, s3 _ _ ed, fun j y hj => absurd hj (Nat.not_lt_zero _)⟩
    · rintro H3 s3 i τ H' ⟨_, _, _, t, _⟩; exact t
    · rintro H3 s3 i ⟨k, n⟩ τ H' H'' x hx hxm ⟨o6, o7, rfl, t, sH, ed', hst⟩ s4 tx
      refine eg_pair tx fun uk un tk tn => ?_
      have e1 := tk.txt_inv
      have e2 := tn.num_inv
      subst e1
      subst e2
      have sH4 := sH.trans s4
      have ed4 := s4 _ _ ed'
      have hkm : k ∈ (sumsP (flat S)).map (·.1) := (so.2.1 k).mpr (List.mem_map.mpr ⟨(k, n), List.mem_flatMap.mpr ⟨s, List.mem_of_getElem? hs, List.mem_reverse.mp hxm⟩, rfl⟩)
      refine q_if (G := fun H5 => Same H'' H5) (b := stays S loan k) (EvT.to (et_or (et_cmp (ed_lenL (es_of (el_spots (S := S) (k := k) (ed_var rfl fun H5 s => (tv.up sH4).up s) (ed_var rfl fun _ _ => .txt k) fw))) ed_int rb_I0) fun _ => et_cmp (ed_sumIx so.1 (er_var rfl fun H5 s => ⟨d, rfl, s _ _ ed4⟩) (ed_var rfl fun _ _ => .txt k) hkm) (ed_var rfl fun _ _ => .num loan) rb_I0) ?_) (Same.refl H'') (fun hb H5 s5 => ?_) fun hb H5 s5 => ?_
      · unfold stays
        rw [so.2.2, List.length_map]
        congr 1
        rw [decide_eq_decide]
        omega
      · refine ⟨_, rfl, ?_⟩
        have htn : tailN S loan s = i := take_all hst hx (by rw [hb]; rfl)
        have := hq H5 (sH4.trans s5)
        rw [htn] at this
        exact this
      · refine q_nx ?_
        refine ⟨_, rfl, (i : Nat), 1, rfl, rfl, ?_⟩
        refine ⟨_, _, rfl, (t.trans s4).trans s5, sH4.trans s5, s5 _ _ ed4, fun j y hj hy => ?_⟩
        by_cases hji : j < i
        · exact hst j y hji hy
        · have : j = i := by omega
          subst this
          rw [hx] at hy
          rw [← Option.some.inj hy]
          simp only
          rw [hb]; rfl
    · rintro H3 s3 τ H' ⟨o6, o7, rfl, t, sH, ed', hst⟩
      refine q_nx ?_
      refine ⟨_, rfl, ?_⟩
      have htn : tailN S loan s = s.reverse.length := take_whole fun j y hj hy => hst j y hj hy
      have := hq H' sH
      rw [htn] at this
      exact this
end
end K8
end

section
set_option Elab.async false
set_option linter.all false
set_option maxRecDepth 100000
set_option maxHeartbeats 4000000
/-! K81: _law_comes. -/
namespace K8
open PySem PySem.Spec PyProof.Rows L2
theorem cutV_to (xs : List V) (k : Nat) : cutV xs none (some (k : Int)) = xs.take k := by
  show (xs.drop 0).take (HT.sIx xs.length xs.length (some (k : Int)) - 0) = xs.take k
  rw [sIx_nat, List.drop_zero, Nat.sub_zero]
  by_cases h : k ≤ xs.length
  · rw [Nat.min_eq_left h]
  · rw [Nat.min_eq_right (by omega), List.take_length, List.take_of_length_le (by omega)]
/-- word[:n] -/
theorem er_sliceTo {G : Hp → Prop} {tw ta : TE} {σ : L2.St} [Stb G] {ks : List Str} {n : Nat} (h : EvR G tw σ fun v H => Wd H v ks) (ha : EvD G ta σ (.num (n : Int))) : EvR G (tSl rSlF tw tNoPart (tPart ta)) σ fun v H => Wd H v (ks.take n) := fun H1 g Q q =>
  h H1 g _ fun v H2 s ⟨a, e, hw⟩ => ha H2 (Stb.up g s) _ fun u H3 s3 t3 => by
    subst e
    cases t3
    refine ⟨(n : Int), rfl, a, _, rfl, hw.up s3, fun p H4 s4 hw4 => q _ H4 ((s.trans s3).trans s4) ⟨p, rfl, ?_⟩⟩
    rw [cutV_to, ← List.map_take] at hw4
    exact hw4
theorem er_wordOf {G : Hp → Prop} {te : TE} {σ : L2.St} {s : Sh} (h : EvD G te σ (shD s)) (hl : s.length ≤ 1000) : EvR G (tCall spWordOf [] E0 (tCons te tNil)) σ fun v H => Wd H v (s.map (·.1)) := fun H1 g Q q =>
  h H1 g _ fun v H2 s2 t => ⟨v, s, rfl, t, hl, fun u H3 s3 w => q u H3 (s2.trans s3) w⟩
theorem ed_tail {G : Hp → Prop} {te ta tl : TE} {σ : L2.St} [Stb G] {S : List Sh} {a : Nat} {s : Sh} {loan : Int} (h : EvD G te σ (stD S)) (ha : EvD G ta σ (.num (a : Nat))) (hl : EvD G tl σ (.num loan)) (hs : S[a]? = some s) (fw : Few S) (ok : OkS S) : EvD G (tCall spTail [] E0 (tCons te (tCons ta (tCons tl tNil)))) σ (.num (tailN S loan s : Nat)) := fun H1 g Q q =>
  h H1 g _ fun v H2 s2 t => ha H2 (Stb.up g s2) _ fun u H3 s3 t3 => hl H3 (Stb.up g (s2.trans s3)) _ fun x H4 s4 t4 => by
    cases t3
    cases t4
    exact ⟨v, S, a, s, loan, rfl, (t.up s3).up s4, hs, fw, ok, fun H5 s5 => q _ H5 (((s2.trans s3).trans s4).trans s5) (.num _)⟩
abbrev nComes : List Str := ["_law_here", "_law_there", "_law_loan", "_law_at", "_law_plank", "_law_wish"]
theorem sc_Comes : FnScope nComes ["_law_here", "_law_there", "_law_loan"] (defScope (K81.top 36)) := ⟨rfl, rfl, rfl, by decide +kernel, rfl, by decide +kernel, by decide +kernel⟩
/-- the wished word of a plank -/
def wishOf (M : List Sh) (loan : Int) (m : Sh) : List Str := (m.map (·.1)).take (m.length - tailN M loan m)
def ComesOk (S M : List Sh) (loan : Int) : Prop := ∀ (i : Nat) (s m : Sh), S[i]? = some s → M[i]? = some m → (wishOf M loan m).Sublist (s.map (·.1))
def spComes : Sp := fun vs H Q _ => ∃ (v u : V) (S M : List Sh) (loan : Int), vs = [v, u, .int loan] ∧ Tp H v (stD S) ∧ Tp H u (stD M) ∧ M.length = S.length ∧ Few S ∧ Few M ∧ OkS S ∧ OkS M ∧ ∀ b H', Same H H' → (ComesOk S M loan → b = true) → Q (.bl b) H'
section
variable {P : Program} {w : World} {K : PySem.W.Frag} {mg : Str → Option Value} {base : Heap}
theorem cal_Comes (B : Bi mg) (D : DfE K mg "_law_comes" 36) (CLWord : Cal P w K mg base "_law_word" 1 ["_law_plank"] spWordOf) (CLTail : Cal P w K mg base "_law_tail" 2 ["_law_here", "_law_at", "_law_loan"] spTail) (CLIsIn : Cal P w K mg base "_law_is_in" 1 ["_law_wish", "_law_word_here"] spIsIn) : Cal P w K mg base "_law_comes" 3 ["_law_here", "_law_there", "_law_loan"] spComes := by
  obtain ⟨f, fd, D⟩ := D
  have nd := sc_Comes.nd
  refine D.cal (D.F.ok sc_Comes (fun vs H Q E h => ?_) fun cdv A outer s H vs Q E hr h => ⟨_, PSs.nox
    ((pss_cons (ps_for PassesOwn.never rfl (pi_enumT rfl B.enumerate (pa_cons (pv 1) pa_nil)) (pg_tup rfl (pgs_cons (pg_name (i := 3) nd rfl (by first | exact Or.inl rfl | exact Or.inr rfl)) (pgs_cons (pg_name (i := 4) nd rfl (by first | exact Or.inl rfl | exact Or.inr rfl)) pgs_nil))) (pss_cons (ps_set (i := 5) nd rfl (by first | exact Or.inl rfl | exact Or.inr rfl) (pe_slice sl_tupF (pe_callC CLWord (hr.mono (by decide)) (pa_cons (pv 4) pa_nil)) po_none (po_some (pe_op op_sub (pe_callB call_len_seq rfl B.len PySem.boot_len (pa_cons (pv 4) pa_nil)) (pe_callC CLTail (hr.mono (by decide)) (pa_cons (pv 1) (pa_cons (pv 3) (pa_cons (pv 2) pa_nil))))))))
      (pss_one (ps_if (pt_not (pt_val (pe_callC CLIsIn (hr.mono (by decide)) (pa_cons (pv 5) (pa_cons (pe_callC CLWord (hr.mono (by decide)) (pa_cons (pe_ix ix_tup (pv 0) (pv 3) (fun _ _ => rfl)) pa_nil)) pa_nil))))) (pss_one (ps_ret pe_bl)) pss_nil))))
      (pss_one (ps_ret pe_bl)))), ?_⟩)
    (fun kV doc pm an cdv ct us hl => match us, hl with | [_, _, _], _ => rfl)
  · obtain ⟨v, u, S, M, loan, rfl, _⟩ := h; rfl
  · obtain ⟨v, u, S, M, loan, rfl, tv, tu, hl, f1, f2, o1, o2, hq⟩ := h
    refine q_forI (G := fun H' => Same H H') (xs := M.zipIdx) (mk := enD) (ei_enS (ed_var rfl fun H' s => tu.up s)).ei (Same.refl H) (fun H3 i τ H' => ∃ o3 o4 o5, τ = [some v, some u, some (.int loan), o3, o4, o5] ∧ Same H3 H' ∧ Same H H') ?_ ?_ ?_ ?_
    · exact fun H3 s3 => ⟨none, none, none, rfl, Same.refl _, s3⟩
    · rintro H3 s3 i τ H' ⟨_, _, _, _, t, _⟩; exact t
    · rintro H3 s3 i ⟨m, a⟩ τ H' H'' x hx hxm ⟨o3, o4, o5, rfl, t, sH⟩ s4 tx
      obtain ⟨hm1, hm2⟩ := zipIdx_mem_sh hxm
      have hm2' : M[a]? = some m := hm2
      have haS : a < S.length := by rw [← hl]; exact (List.getElem?_eq_some_iff.mp hm2').1
      refine eg_pair tx fun ua um ta tm => ?_
      have e1 := ta.num_inv
      subst e1
      have sH4 := sH.trans s4
      have hml := few_sh f2 m hm1
      have hsl := few_sh f1 S[a] (List.getElem_mem haS)
      have htl : tailN M loan m ≤ m.length := by
        unfold tailN
        refine Nat.le_trans (List.takeWhile_sublist _).length_le ?_
        rw [List.length_reverse]; exact Nat.le_refl _
      refine q_asgR (G := fun H5 => Same H'' H5) (R := fun v H => Wd H v (wishOf M loan m)) (er_sliceTo (er_wordOf (ed_var rfl fun H5 s => tm.up s) hml) (EvD.to (ed_op (ed_len (ed_var rfl fun H5 s => tm.up s)) (ed_tail (S := M) (a := a) (s := m) (loan := loan) (ed_var rfl fun H5 s => (tu.up sH4).up s) (ed_var rfl fun _ _ => .num _) (ed_var rfl fun _ _ => .num _) hm2' f2 o2) rd_I0) (congrArg NestedKey.num (show ((List.map bkD m).length : Int) - (tailN M loan m : Nat) = ((m.length - tailN M loan m : Nat) : Int) by rw [List.length_map]; omega)))) (Same.refl H'') fun wv H5 s5 hw => ?_
      refine ⟨wv, rfl, ?_⟩
      have sH5 := sH4.trans s5
      have key : EvR (fun H6 => Same H5 H6) (tCall spWordOf [] E0 (tCons (tOp (rIxT K) (tVar 0) (tVar 3)) tNil)) [some v, some u, some (.int loan), some (.int (a : Nat)), some um, some wv] fun v H => Wd H v (S[a].map (·.1)) := er_wordOf (ed_ix (ed_var rfl fun H6 s => (tv.up sH5).up s) (ed_var rfl fun _ _ => .num _) (atI_nat (by rw [List.getElem?_map, List.getElem?_eq_getElem haS]; rfl))) hsl
      refine key H5 (Same.refl _) _ fun kv H6 s6 hk => ?_
      refine ⟨wv, kv, _, _, rfl, (hw.up s6).tp, hk.tp, ?_, ?_, fun k hk => ?_, fun k hk => ?_, fun b H7 s7 hb => ⟨b, rfl, ?_⟩⟩
      · refine Nat.le_trans (List.take_sublist _ _).length_le ?_
        rw [List.length_map]; exact hml
      · rw [List.length_map]; exact hsl
      · obtain ⟨p, hp, rfl⟩ := List.mem_map.mp (List.mem_of_mem_take hk)
        exact o2 m hm1 p hp
      · obtain ⟨p, hp, rfl⟩ := List.mem_map.mp hk
        exact o1 _ (List.getElem_mem haS) p hp
      · have sE := ((t.trans s4).trans s5).trans (s6.trans s7)
        cases b with
        | true =>
          refine go_f ?_
          exact ⟨_, _, _, rfl, sE, (sH5.trans s6).trans s7⟩
        | false =>
          refine go_t ?_
          exact hq false H7 ((sH5.trans s6).trans s7) fun hc => hb (hc a _ _ (List.getElem?_eq_getElem haS) hm2')
    · rintro H3 s3 τ H' ⟨o3, o4, o5, rfl, t, sH⟩
      exact hq true H' sH fun _ => rfl
end
end K8
end

section
set_option Elab.async false
set_option linter.all false
set_option maxRecDepth 100000
set_option maxHeartbeats 4000000
/-! K81: _law_lots. -/
namespace K8
open PySem PySem.Spec PyProof.Rows L2
/-- what the dict of lots holds -/
structure LK (w : WW) (sorts : List Str) (kn : List (List Str)) : Prop where
  nd : kn.Nodup
  snd : ∀ ks ∈ kn, KM.LotOk srtS w sorts ks
  nil : [] ∈ kn
def addK (kn : List (List Str)) (ks : List Str) : List (List Str) := if ks ∈ kn then kn else kn ++ [ks]
theorem addK_mem {kn : List (List Str)} {ks x : List Str} : x ∈ addK kn ks ↔ x ∈ kn ∨ x = ks := by
  unfold addK
  by_cases h : ks ∈ kn
  · rw [if_pos h]
    exact ⟨.inl, fun z => z.elim id fun e => e ▸ h⟩
  · rw [if_neg h, List.mem_append, List.mem_singleton]
theorem addK_nd {kn : List (List Str)} (n : kn.Nodup) (ks : List Str) : (addK kn ks).Nodup := by
  unfold addK
  by_cases h : ks ∈ kn
  · rw [if_pos h]; exact n
  · rw [if_neg h, List.nodup_append]
    exact ⟨n, List.nodup_cons.mpr ⟨fun z => (nomatch z), List.nodup_nil⟩, fun a ha b hb e => h (by rw [List.mem_singleton.mp hb] at e; rw [← e]; exact ha)⟩
theorem LK.add {w : WW} {sorts : List Str} {kn : List (List Str)} (L : LK w sorts kn) {ks : List Str} (h : KM.LotOk srtS w sorts ks) : LK w sorts (addK kn ks) :=
  ⟨addK_nd L.nd ks, fun x hx => (addK_mem.mp hx).elim (L.snd x) fun e => e ▸ h, addK_mem.mpr (.inl L.nil)⟩
theorem LK.few {w : WW} {sorts : List Str} {kn : List (List Str)} (L : LK w sorts kn) (hn : sorts.Nodup) (h5 : sorts.length ≤ 5) : kn.length ≤ 32 := by
  have := few_keys hn L.nd fun k hk => by
    obtain ⟨r, _, n, h, e⟩ := L.snd k hk
    exact ⟨r, n, h, e⟩
  exact Nat.le_trans this (Nat.pow_le_pow_right (by decide) h5)
/-- a set's puts by keys -/
theorem putN_keysK {xs : List (E3 V)} {kn : List (List Str)} (h : xs.map (·.1) = kn.map txD) (ks : List Str) (a : Addr) (v : V) : (putN xs (txD ks) a v).map (·.1) = (addK kn ks).map txD := by
  have hm : txD ks ∈ xs.map (·.1) ↔ ks ∈ kn := by
    rw [h]
    exact ⟨fun z => by obtain ⟨y, hy, e⟩ := List.mem_map.mp z; rw [← txD_inj e]; exact hy, fun z => List.mem_map.mpr ⟨ks, z, rfl⟩⟩
  unfold addK
  by_cases hk : ks ∈ kn
  · rw [if_pos hk, putN_old (hm.mpr hk), putN_keys_old, h]
  · rw [if_neg hk, putN_new (fun z => hk (hm.mp z)), List.map_append, List.map_append, h]
    rfl
theorem sortOk_keys {kn : List (List Str)} (h : kn.length ≤ 100000) : SortOk (kn.map txD) := by
  refine ⟨fun d hd d' hd' => ?_, .inl fun d hd => ?_, fun d hd => ?_, by rw [List.length_map, sizeLine_eq]; omega⟩
  · obtain ⟨z, hz, rfl⟩ := List.mem_map.mp hd
    obtain ⟨z', hz', rfl⟩ := List.mem_map.mp hd'
    obtain ⟨e, _, rfl⟩ := List.mem_map.mp hz
    obtain ⟨e', _, rfl⟩ := List.mem_map.mp hz'
    exact alike_txD e e'
  · obtain ⟨e, _, rfl⟩ := List.mem_map.mp hd
    exact ⟨_, rfl⟩
  · obtain ⟨e, _, rfl⟩ := List.mem_map.mp hd
    exact Nat.le_trans (depth_txD e) (by decide)
def srtT (l : List (List Str)) : List (List Str) := l.mergeSort (fun a b => PySem.W.dataLe false (fun e : List Str => (txD e).data) a b)
theorem srtT_perm (l : List (List Str)) : (srtT l).Perm l := List.mergeSort_perm _ _
theorem srtT_map (l : List (List Str)) : srtD (l.map txD) = (srtT l).map txD := (PySem.W.sort_maps txD fun _ _ _ _ => rfl).symm
abbrev nLots : List Str := ["_law_mine", "_law_its", "_law_sorts", "_law_found", "_law_sort", "_law_rest", "_law_lot", "_law_one_sort"]
theorem sc_Lots : FnScope nLots ["_law_mine", "_law_its", "_law_sorts"] (defScope (K81.top 37)) := ⟨rfl, rfl, rfl, by decide +kernel, rfl, by decide +kernel, by decide +kernel⟩
def spLots (n : Nat) : Sp := fun vs H Q _ => ∃ (v u : V) (a : Addr) (us : List V) (w : WW) (sorts : List Str), vs = [v, u, .ref a] ∧ Wd H v w.1 ∧ Wd H u w.2 ∧ H a = some (.lst us) ∧ TpA H us (sorts.map NestedKey.text) ∧ sorts.length < n ∧ sorts.length ≤ 5 ∧ sorts.Nodup ∧
  ∀ p vs H' (ls : List (List Str)), H p = none → Same H H' → H' p = some (.lst vs) → TpA H' vs (ls.map txD) → ls.length ≤ 32 → (∀ ks, ks ∈ ls ↔ KM.LotOk srtS w sorts ks) → Q (.ref p) H'
section
variable {P : Program} {w : World} {K : PySem.W.Frag} {mg : Str → Option Value} {base : Heap}
theorem cal_Lots (B : Bi mg) (D : DfE K mg "_law_lots" 37) (d : Nat) : Cal P w K mg base "_law_lots" d ["_law_mine", "_law_its", "_law_sorts"] (spLots d) := by
  obtain ⟨f, fd, D⟩ := D
  induction d with
  | zero =>
    refine D.cal ⟨fun vs H Q E h => ?_, fun A outer s H args us vs Q E _ _ _ _ h => ?_⟩ (fun kV doc pm an cdv ct us hl => match us, hl with | [_, _, _], _ => rfl)
    · obtain ⟨_, _, _, _, _, _, _, _, _, _, _, z, _⟩ := h; exact absurd z (Nat.not_lt_zero _)
    · obtain ⟨_, _, _, _, _, _, _, _, _, _, _, z, _⟩ := h; exact absurd z (Nat.not_lt_zero _)
  | succ d CLLots =>
    have nd := sc_Lots.nd
    refine D.cal (D.F.ok sc_Lots (fun vs H Q E h => ?_) fun cdv A outer s H vs Q E hr h => ⟨_, PSs.nox
      ((pss_cons (ps_set (i := 3) nd rfl (by first | exact Or.inl rfl | exact Or.inr rfl) (pe_dispN hr.units (pps_cons (pe_tup pa_nil) pe_bl pps_nil) (by rfl) (by rfl) (fun z => by cases z) (by decide)))
      (pss_cons (ps_for PassesOwn.never rfl (pi_list (pe_lc (wi := (iList K _)) (g := (gName 4)) (tt := (tAnd (tTest (tOp (rIn K false) _ _)) (tTest (tOp (rIn K false) _ _)))) (te := _) rfl nd (pi_list (pv 2)) (blkOk_by (own := [("_law_sort", 4)]) (by kernel_rfl)) (fun _ _ _ _ _ => (pg_name (i := 4) nd rfl (by first | exact Or.inl rfl | exact Or.inr rfl))) (fun _ _ _ _ _ => (pts_one (PW.pt (pw_and (pt_cmpR op_in_seq (pv 4) (pv 0) (by with_unfolding_all rfl)) (pw_and1 (pt_cmpR op_in_seq (pv 4) (pv 1) (by with_unfolding_all rfl))))))) (fun _ _ _ _ _ => (pv 4)))) (pg_name (i := 4) nd rfl (by first | exact Or.inl rfl | exact Or.inr rfl)) (pss_cons (ps_setLc (i := 5) (wi := (iList K _)) (g := (gName 7)) (tt := _) (te := _) rfl nd rfl rfl (sw_true rfl rfl rfl (by kernel_rfl)) (pi_list (pv 2)) (blkOk_by (own := [("_law_one_sort", 7)]) (by kernel_rfl)) (fun _ _ _ _ _ => (pg_name (i := 7) nd rfl (by first | exact Or.inl rfl | exact Or.inr rfl))) (fun _ _ _ _ _ => (pts_one (pt_cmpR op_ne (pv 7) (pv 4) (nomark _)))) (fun _ _ _ _ _ => (pv 7)))
      (pss_one (ps_for PassesOwn.never rfl (pi_list (pe_callC CLLots (hr.mono (Nat.le_refl _)) (pa_cons (pe_slice sl_tupF (pv 0) (po_some (pe_op op_add (pe_index (pv 0) (pa_cons (pv 4) pa_nil)) pe_int)) po_none) (pa_cons (pe_slice sl_tupF (pv 1) (po_some (pe_op op_add (pe_index (pv 1) (pa_cons (pv 4) pa_nil)) pe_int)) po_none) (pa_cons (pv 5) pa_nil))))) (pg_name (i := 6) nd rfl (by first | exact Or.inl rfl | exact Or.inr rfl)) (pss_one (ps_asg pe_bl (pg_sub (pv 3) (pe_callTy call_tuple_of rfl B.tuple boot_tuple (pa_cons (pe_callB (cr_sortQ hr.units) rfl B.sorted boot_sorted (pa_cons (pe_op op_catA (pv 6) (pe_tup (pa_cons (pv 4) pa_nil))) pa_nil)) pa_nil)) (set_n hr.units))))))))
      (pss_one (ps_ret (pe_callB (cr_sortN rfl hr.units) rfl B.sorted boot_sorted (pa_cons (pv 3) pa_nil))))))), ?_⟩)
      (fun kV doc pm an cdv ct us hl => match us, hl with | [_, _, _], _ => rfl)
    · obtain ⟨v, u, a, us, ww, sorts, rfl, _⟩ := h; rfl
    · obtain ⟨v, u, a, us, ww, sorts, rfl, wv, wu, ha, tu, hd, h5, hn, hq⟩ := h
      intro d0 o0 hd0 D0
      refine ed_tup (G := fun H' => Same (upd H d0 (dnO d0 o0)) H') ea_nil (Nat.zero_le _) _ (Same.refl _) _ fun kv Ha sa tka => ?_
      obtain ⟨ka, kxs, rfl, _⟩ := tka.tup_inv
      refine ⟨o0, [(txD [], ka, .bl true)], D0.up sa, rfl, fun x hx => ?_, (show 1 ≤ 15 by decide), fun o1 D1 => ?_⟩
      · rw [List.mem_singleton.mp hx]
        exact ⟨tka, Nat.le_trans (depth_txD []) (by decide)⟩
      have sH1 : Same H (upd Ha d0 (dnO d0 o1)) := same_D ((same_new hd0).trans sa) hd0
      have D1' : DNo P w (upd Ha d0 (dnO d0 o1)) d0 o1 [(txD [], ka, .bl true)] := D1
      generalize upd Ha d0 (dnO d0 o1) = H1 at sH1 D1' ⊢
      refine q_gn ?_
      generalize hhs : (sorts.filter fun k => decide (k ∈ ww.1) && decide (k ∈ ww.2)) = hs
      have hhm : ∀ k, k ∈ hs ↔ k ∈ sorts ∧ k ∈ ww.1 ∧ k ∈ ww.2 := fun k => by
        rw [← hhs, List.mem_filter, Bool.and_eq_true, decide_eq_true_eq, decide_eq_true_eq]
      have key1 : EvL (fun H' => Same H1 H') (tLc (iList K (tVar 2)) (gName 4) (tAnd (tTest (tOp (rIn K false) (tVar 4) (tVar 0))) (tTest (tOp (rIn K false) (tVar 4) (tVar 1)))) (tVar 4) [4]) [some v, some u, some (.ref a), some (.ref d0), none, none, none, none] (hs.map NestedKey.text) := by
        rw [← hhs]
        refine el_lc (xs := sorts) (mk := NestedKey.text) (fun k => decide (k ∈ ww.1) && decide (k ∈ ww.2)) NestedKey.text (ei_listV (a := a) (xs := us) (er_var rfl fun H' s => ⟨rfl, s _ _ (sH1 _ _ ha), (tu.up sH1).up s⟩)) (by omega) ?_
        intro H2 s2 k hk x Hx sx tx
        have e1 := tx.txt_inv
        subst e1
        have sx2 := sH1.trans (s2.trans sx)
        exact eg_name ⟨Same.refl _, rfl, et_and (et_inW (ed_var rfl fun _ _ => .txt k) (er_var rfl fun H' s => (wv.up sx2).up s)) (fun _ => et_inW (ed_var rfl fun _ _ => .txt k) (er_var rfl fun H' s => (wu.up sx2).up s)), fun _ => ed_var rfl fun _ _ => .txt k⟩
      refine q_forN (G := fun H' => Same H1 H') key1 (Same.refl H1) (fun p H2 i τ H' => ∃ (o4 o5 o6 o7 : Option V) (o : Obj) (xs : List (E3 V)) (kn : List (List Str)), τ = [some v, some u, some (.ref a), some (.ref d0), o4, o5, o6, o7] ∧ Same H H' ∧ (∀ b ob, b ≠ d0 → H2 b = some ob → H' b = some ob) ∧ Ts H2 H' ∧ DNo P w H' d0 o xs ∧ xs.map (·.1) = kn.map txD ∧ LK ww sorts kn ∧ (∀ k ∈ hs.take i, ∀ lot, KM.LotOk srtS (KM.behindW ww k) (sorts.filter fun x => decide (x ≠ k)) lot → srtS (lot ++ [k]) ∈ kn)) ?_ ?_ ?_ ?_
      · rintro p H2 hp s2 _
        refine ⟨none, none, none, none, o1, _, [[]], rfl, sH1.trans s2, fun _ _ _ e => e, Ts.of (Same.refl _), D1'.up s2, rfl, ⟨List.nodup_cons.mpr ⟨fun z => (nomatch z), List.nodup_nil⟩, fun ks hks => ?_, List.mem_singleton.mpr rfl⟩, fun k hk => by rw [List.take_zero] at hk; cases hk⟩
        rw [List.mem_singleton.mp hks]
        exact KM.LotOk.nil KSrt
      · rintro p H2 hp s2 vs hvs i τ H' ⟨o4, o5, o6, o7, o, xs, kn, rfl, sH, off, ts, _⟩
        exact ⟨off _ _ (fun z => by rw [z, D1'.at_] at hp; cases hp) hvs, ts⟩
      · rintro p H2 hp s2 i k τ H' x hx hxm ⟨o4, o5, o6, o7, o, xs, kn, rfl, sH, off, ts, Dn, hkeys, L, full⟩ tx
        have e1 := tx.txt_inv
        subst e1
        obtain ⟨k1, k2, k3⟩ := (hhm k).mp hxm
        have hflt : (sorts.filter fun x => !decide (x = k)) = sorts.filter fun x => decide (x ≠ k) := by
          congr 1; funext x; simp
        have hlt : (sorts.filter fun x => decide (x ≠ k)).length < sorts.length := by
          refine List.length_filter_lt_length_iff_exists.mpr ⟨k, k1, by simp⟩
        refine eg_name ?_
        refine q_asgL (G := fun H3 => Same H' H3) (ds := (sorts.filter fun x => decide (x ≠ k)).map NestedKey.text) (EvL.to (el_lc (xs := sorts) (mk := NestedKey.text) (fun x => !decide (x = k)) NestedKey.text (ei_listV (a := a) (xs := us) (er_var rfl fun H3 s => ⟨rfl, s _ _ (sH _ _ ha), (tu.up sH).up s⟩)) (by omega) ?_) (by rw [hflt])) (Same.refl H') fun rp rvs H3 hrp s3 er tr => ?_
        · intro H3 s3 y hy z Hz sz tz
          have e2 := tz.txt_inv
          subst e2
          exact eg_name ⟨Same.refl _, rfl, et_cmp (ed_var rfl fun _ _ => .txt y) (ed_var rfl fun _ _ => .txt k) rb_neS, fun _ => ed_var rfl fun _ _ => .txt y⟩
        have sH3 := sH.trans s3
        refine q_nx ?_
        refine tFor_list ?_
        have keyA : EvR (fun H4 => Same H3 H4) (tSl rSlF (tVar 0) (tPart (tOp (rI0 fun i j => V.int (i + j)) (tIndex (tVar 0) (tCons (tVar 4) tNil)) (tC (.int 1)))) tNoPart) [some v, some u, some (.ref a), some (.ref d0), some (.str k), some (.ref rp), o6, o7] fun z H => Wd H z (ww.1.drop (ww.1.idxOf k + 1)) :=
          er_sliceW (er_var rfl fun H4 s => (wv.up sH3).up s) (EvD.to (ed_op (ed_index1 (er_var rfl fun H4 s => (wv.up sH3).up s) (ed_var rfl fun _ _ => .txt k) k2) ed_int rd_I0) rfl)
        refine keyA H3 (Same.refl _) _ fun w1 H4 s4 hw1 => ?_
        have sH4 := sH3.trans s4
        have keyB : EvR (fun H5 => Same H4 H5) (tSl rSlF (tVar 1) (tPart (tOp (rI0 fun i j => V.int (i + j)) (tIndex (tVar 1) (tCons (tVar 4) tNil)) (tC (.int 1)))) tNoPart) [some v, some u, some (.ref a), some (.ref d0), some (.str k), some (.ref rp), o6, o7] fun z H => Wd H z (ww.2.drop (ww.2.idxOf k + 1)) :=
          er_sliceW (er_var rfl fun H5 s => (wu.up sH4).up s) (EvD.to (ed_op (ed_index1 (er_var rfl fun H5 s => (wu.up sH4).up s) (ed_var rfl fun _ _ => .txt k) k3) ed_int rd_I0) rfl)
        refine keyB H4 (Same.refl _) _ fun w2 H5 s5 hw2 => ?_
        have s35 := s4.trans s5
        refine ⟨.ref rp, rfl, w1, w2, rp, rvs, KM.behindW ww k, sorts.filter fun x => decide (x ≠ k), rfl, hw1.up s5, hw2, s35 _ _ er, tr.up s35, by omega, by omega, hn.sublist List.filter_sublist, fun p2 vs2 H6 ls hp2 s6 e6 t6 l32 hls => ?_⟩
        refine ⟨p2, rfl, ⟨_, .inl (.inl e6)⟩, ?_⟩
        have s06 : Same H' H6 := (s3.trans s35).trans s6
        have sH6 := sH.trans s06
        have Dn6 := Dn.up s06
        have hpd : p2 ≠ d0 := fun z => by rw [z, (Dn.up (s3.trans s35)).at_] at hp2; cases hp2
        refine fo_list (xs := ls) (mk := txD) (us := vs2) (fun j τ H7 => ∃ (o6 : Option V) (o : Obj) (xs : List (E3 V)) (kn : List (List Str)), τ = [some v, some u, some (.ref a), some (.ref d0), some (.str k), some (.ref rp), o6, o7] ∧ Same H H7 ∧ (∀ b ob, b ≠ d0 → H6 b = some ob → H7 b = some ob) ∧ Ts H6 H7 ∧ DNo P w H7 d0 o xs ∧ xs.map (·.1) = kn.map txD ∧ LK ww sorts kn ∧ (∀ k ∈ hs.take i, ∀ lot, KM.LotOk srtS (KM.behindW ww k) (sorts.filter fun x => decide (x ≠ k)) lot → srtS (lot ++ [k]) ∈ kn) ∧ ∀ lot ∈ ls.take j, srtS (lot ++ [k]) ∈ kn) ?_ ?_ ?_ ?_
        · exact ⟨o6, o, xs, kn, rfl, sH6, fun _ _ _ e => e, Ts.of (Same.refl _), Dn6, hkeys, L, full, fun lot h => by rw [List.take_zero] at h; cases h⟩
        · rintro j τ H7 ⟨o6, o, xs, kn, rfl, sH7, off7, ts7, _⟩
          exact ⟨off7 _ _ hpd e6, t6.mono ts7⟩
        · rintro j lot τ H7 y hy hym ⟨o6, o, xs, kn, rfl, sH7, off7, ts7, Dn7, hkeys7, L7, full7, in7⟩ ty
          have hlot := (hls lot).mp hym
          have hll : lot.length ≤ 5 := by
            obtain ⟨r, _, n, h, e⟩ := hlot
            rw [e, (srtS_perm _).length_eq]
            have := nodup_len n h
            omega
          refine ⟨.ref d0, rfl, ?_⟩
          have hk1 : EvD (fun H8 => Same H7 H8) (tTup (tCons (tVar 4) tNil)) [some v, some u, some (.ref a), some (.ref d0), some (.str k), some (.ref rp), some y, o7] (txD [k]) := ed_tup (ea_cons (ed_var rfl fun _ _ => .txt k) ea_nil) (show 1 ≤ 100000 by decide)
          have key3 : EvD (fun H8 => Same H7 H8) (tCB (rTupOf K) (tCons (tCB (rSortQ K) (tCons (tOp (rCatA K) (tVar 6) (tTup (tCons (tVar 4) tNil))) tNil)) tNil)) [some v, some u, some (.ref a), some (.ref d0), some (.str k), some (.ref rp), some y, o7] (txD (srtS (lot ++ [k]))) := ed_sortTx (ks := lot ++ [k]) (EvD.to (ed_op (ed_var (d := txD lot) rfl fun H8 s => ty.up s) hk1 (rd_cat (by rw [List.length_map]; show _ + 1 ≤ _; omega))) (by rw [← List.map_append])) (by rw [List.length_append]; show _ + 1 ≤ _; omega)
          refine key3 H7 (Same.refl _) _ fun kv H8 s8 tk => ?_
          obtain ⟨ka, kxs, rfl, _⟩ := tk.tup_inv
          have Dn8 := Dn7.up s8
          have hk32 := L7.few hn h5
          have hxl : xs.length = kn.length := by
            have := congrArg List.length hkeys7
            rwa [List.length_map, List.length_map] at this
          refine ⟨d0, o, xs, txD (srtS (lot ++ [k])), ka, rfl, rfl, Dn8, tk, Nat.le_trans (depth_txD _) (by decide), by have := sizeLine_eq; omega, fun o' Dn9 => ?_⟩
          have sH8 := sH7.trans s8
          refine ⟨_, o', _, addK kn (srtS (lot ++ [k])), rfl, same_D sH8 hd0, fun b ob hb hob => by rw [upd_ne hb]; exact s8 _ _ (off7 b ob hb hob), (ts7.trans (Ts.of s8)).trans (Ts.dn Dn8.at_), Dn9, putN_keysK hkeys7 _ _ _, L7.add (KM.LotOk.cons KSrt k2 k3 k1 hlot), fun k' hk' lot' hl' => addK_mem.mpr (.inl (full7 k' hk' lot' hl')), fun lot' hl' => ?_⟩
          rw [List.take_add_one, hy] at hl'
          rcases List.mem_append.mp hl' with hl' | hl'
          · exact addK_mem.mpr (.inl (in7 lot' hl'))
          · obtain rfl : lot' = lot := by simpa using hl'
            exact addK_mem.mpr (.inr rfl)
        · rintro τ H7 ⟨o6, o, xs, kn, rfl, sH7, off7, ts7, Dn7, hkeys7, L7, full7, in7⟩
          refine ⟨_, _, _, _, o, xs, kn, rfl, sH7, fun b ob hb hob => off7 b ob hb (s06 _ _ (off b ob hb hob)), (ts.trans (Ts.of s06)).trans ts7, Dn7, hkeys7, L7, fun k' hk' lot hlot => ?_⟩
          rw [List.take_add_one, hx] at hk'
          rcases List.mem_append.mp hk' with hk' | hk'
          · exact full7 k' hk' lot hlot
          · obtain rfl : k' = k := by simpa using hk'
            rw [List.take_length] at in7
            exact in7 lot ((hls lot).mpr hlot)
      · rintro p H2 hp s2 τ H' ⟨o4, o5, o6, o7, o, xs, kn, rfl, sH, off, ts, Dn, hkeys, L, full⟩
        rw [List.take_length] at full
        have hk32 := L.few hn h5
        refine q_nx ?_
        refine ⟨.ref d0, rfl, d0, o, xs, rfl, Dn, by rw [hkeys]; exact sortOk_keys (by omega), fun q ys hq' t => ?_⟩
        rw [hkeys, srtT_map] at t
        have sn := same_new (o := .lst ys) hq'
        refine hq q ys _ (srtT kn) (sH.free hq') (sH.trans sn) (by simp [upd]) (t.up sn) (by rw [(srtT_perm kn).length_eq]; exact hk32) fun ks => ?_
        rw [(srtT_perm kn).mem_iff]
        refine ⟨L.snd ks, fun h => ?_⟩
        rcases h.inv KSrt with rfl | ⟨k, a1, a2, a3, lot, hlot, rfl⟩
        · exact L.nil
        · exact full k ((hhm k).mpr ⟨a3, a1, a2⟩) lot hlot
end
end K8
end

section
set_option Elab.async false
set_option linter.all false
set_option maxRecDepth 100000
set_option maxHeartbeats 4000000
/-! K81: _law_can_meet. -/
namespace K8
open PySem PySem.Spec PyProof.Rows L2
theorem room65 {k : Nat} {A : Around} (r : Room k A) : A.units + 65 < cLine := by have := r.un; omega
theorem cb1 {r : List V → Hp → VK → Prop} {te : TE} {σ : L2.St} {H : Hp} {Q : VK} (h : te σ H fun x H1 => r [x] H1 Q) : tCB r (tCons te tNil) σ H Q := h
theorem q_retOp {r : R2} {ta tb : TE} {D : L2.Ends} {σ : L2.St} {H : Hp} (h : ta σ H fun x H1 => tb σ H1 fun y H2 => r x y H2 D.rt) : tRet (tOp r ta tb) D σ H := h
theorem wk_keys {d : Addr} {od : Obj} {l : List Rw} {H2 : Hp} (e : H2 d = some (.frz od (.dK (kvL l)))) : Wk (Itk d od (kvL l)) H2 (l.map fun p => NestedKey.text p.1) := fun H s => by
  have e' := s _ _ e
  refine ⟨fun i hi => ?_, e', by unfold kvL; rw [List.length_map, List.length_map]; exact Nat.le_refl _⟩
  rw [List.length_map] at hi
  refine ⟨⟨e', by unfold kvL; rw [List.length_map]; exact hi⟩, fun x H' y => ?_⟩
  obtain ⟨rfl, k, v, hk, rfl⟩ := y
  unfold kvL at hk
  rw [List.getElem?_map, List.getElem?_eq_getElem hi] at hk
  obtain ⟨h1, h2⟩ := Prod.mk.inj (Option.some.inj hk)
  subst h1
  exact ⟨Same.refl _, .text l[i].1, by rw [List.getElem?_map, List.getElem?_eq_getElem hi]; rfl, .txt _⟩
theorem ei_keys {G : Hp → Prop} {td : TE} {σ : L2.St} {d : Addr} {od : Obj} {l : List Rw} (h : EvR G td σ fun v H => v = .ref d ∧ H d = some (.frz od (.dK (kvL l)))) : EvI G (iKeys td) σ (l.map fun p => NestedKey.text p.1) := fun H1 g R q =>
  h H1 g _ fun v H2 s ⟨e, e1⟩ => ⟨d, od, e, .inl ⟨kvL l, e1, q _ H2 s (wk_keys e1)⟩⟩
theorem ed_sumIxF {G : Hp → Prop} {td tk : TE} {σ : L2.St} [Stb G] {l : List Rw} {k : Str} (hn : (l.map (·.1)).Nodup) (h : EvR G td σ fun v H => ∃ d od, v = .ref d ∧ H d = some (.frz od (.dK (kvL l)))) (hk : EvD G tk σ (.text k)) (hm : k ∈ l.map (·.1)) : EvD G (tDGet td tk) σ (.num (cnt l k)) := fun H1 g Q q =>
  h H1 g _ fun v H2 s ⟨d, od, e, ed⟩ => hk H2 (Stb.up g s) _ fun kv H3 s3 t3 => by
    subst e
    cases t3
    refine ⟨d, .int (cnt l k), rfl, ?_, q _ H3 (s.trans s3) (.num _)⟩
    refine .inl ⟨kvL l, Sum.inr k, .inr ⟨od, s3 _ _ ed⟩, rfl, ?_⟩
    rw [valV_kvL hn, if_pos hm]
/-- the law's heavy sorts -/
def hvL (S : List Sh) (loan : Int) : List Str := srtS (((sumsP (flat S)).filter fun p => decide (loan < cnt (sumsP (flat S)) p.1)).map (·.1))
theorem hvL_eq (S : List Sh) (loan : Int) : hvL S loan = heavyOf S loan := by
  obtain ⟨h1, h2, h3⟩ := sumsP_ok (flat S)
  rw [← heavy_srt]
  unfold hvL
  refine srtS_can ((List.perm_ext_iff_of_nodup (h1.sublist ((List.filter_sublist).map _)) (heavy_nodup S loan)).mpr fun k => ?_)
  rw [mem_heavy, many_cnt, List.mem_map]
  constructor
  · rintro ⟨p, hp, rfl⟩
    obtain ⟨hp1, hp2⟩ := List.mem_filter.mp hp
    have hp3 := of_decide_eq_true hp2
    rw [h3] at hp3
    exact ⟨mem_flat.mpr ((h2 _).mp (List.mem_map.mpr ⟨p, hp1, rfl⟩)), hp3⟩
  · rintro ⟨hk, hc⟩
    obtain ⟨p, hp, rfl⟩ := List.mem_map.mp ((h2 _).mpr (mem_flat.mp hk))
    exact ⟨p, List.mem_filter.mpr ⟨hp, decide_eq_true (by rw [h3]; exact hc)⟩, rfl⟩
/-- the keys of later -/
structure LM (ls kn la : List (List Str)) : Prop where
  nd : la.Nodup
  snd : ∀ ks ∈ la, ∃ lot ∈ ls, ∃ d ∈ kn, (∀ k ∈ lot, k ∉ d) ∧ ks = srtS (d ++ lot)
theorem LM.few {ls kn la : List (List Str)} {w : WW} {ws : List WW} {hv : List Str} (L : LM ls kn la) (hn : hv.Nodup) (h5 : hv.length ≤ 5) (hl : ∀ ks, ks ∈ ls ↔ KM.LotOk srtS w hv ks) (hk : KM.LKnown srtS hv ws kn) : la.length ≤ 32 := by
  have := few_keys hn L.nd fun k hk' => by
    obtain ⟨lot, h1, d, h2, h3, e⟩ := L.snd k hk'
    obtain ⟨r, _, n1, m1, e1⟩ := (hl lot).mp h1
    obtain ⟨rs, R, e2⟩ := (hk d).mp h2
    refine ⟨d ++ lot, List.nodup_append.mpr ⟨?_, ?_, fun a ha b hb e' => h3 b hb (e' ▸ ha)⟩, fun x hx => ?_, e⟩
    · rw [e2]; exact (srtS_perm _).nodup_iff.mpr R.nd
    · rw [e1]; exact (srtS_perm _).nodup_iff.mpr n1
    · rcases List.mem_append.mp hx with hx | hx
      · rw [e2] at hx; exact R.hv x (KSrt.mem.mp hx)
      · rw [e1] at hx; exact m1 x (KSrt.mem.mp hx)
  exact Nat.le_trans this (Nat.pow_le_pow_right (by decide) h5)
theorem LM.add {ls kn la : List (List Str)} (L : LM ls kn la) {lot d : List Str} (h1 : lot ∈ ls) (h2 : d ∈ kn) (h3 : ∀ k ∈ lot, k ∉ d) : LM ls kn (addK la (srtS (d ++ lot))) :=
  ⟨addK_nd L.nd _, fun x hx => (addK_mem.mp hx).elim (L.snd x) fun e => ⟨lot, h1, d, h2, h3, e⟩⟩
theorem eqv_in (hv : List Str) (kn : List (List Str)) : ((NestedKey.datas (kn.map txD)).any fun z => PyData.eqv z (txD hv).data) = decide (hv ∈ kn) := by
  induction kn with
  | nil => rfl
  | cons k kn ih =>
    show (PyData.eqv (txD k).data (txD hv).data || (NestedKey.datas (kn.map txD)).any _) = _
    rw [ih, data_eqv, ← NestedKey.decide_eq, ← Bool.decide_or, decide_eq_decide, List.mem_cons]
    exact ⟨fun z => z.elim (fun e => .inl (txD_inj e).symm) .inr, fun z => z.elim (fun e => .inl (by rw [e])) .inr⟩
abbrev nCan : List Str := ["_law_here", "_law_there", "_law_loan", "_law_sums_here", "_law_heavy", "_law_sort", "_law_known", "_law_mine", "_law_its", "_law_later", "_law_lot", "_law_done"]
theorem sc_Can : FnScope nCan ["_law_here", "_law_there", "_law_loan"] (defScope (K81.top 38)) := ⟨rfl, rfl, rfl, by decide +kernel, rfl, by decide +kernel, by decide +kernel⟩
def spCan : Sp := fun vs H Q _ => ∃ (v u : V) (S T : List Sh) (loan : Int), vs = [v, u, .int loan] ∧ Tp H v (stD S) ∧ Tp H u (stD T) ∧ Alk S T ∧ OkS S ∧ S.length ≤ 4 ∧ ∀ b H', Same H H' → (b = true ↔ KM.Meet (wordsOf S T) (heavyOf S loan)) → Q (.bl b) H'
section
variable {P : Program} {w : World} {K : PySem.W.Frag} {mg : Str → Option Value} {base : Heap}
theorem cal_Can (B : Bi mg) (D : DfE K mg "_law_can_meet" 38) (CLSums : Cal P w K mg base "_law_sums" 1 ["_law_here"] spSums) (CLWord : Cal P w K mg base "_law_word" 1 ["_law_plank"] spWordOf) (CLLots : Cal P w K mg base "_law_lots" 6 ["_law_mine", "_law_its", "_law_sorts"] (spLots 6)) :
    Cal P w K mg base "_law_can_meet" 7 ["_law_here", "_law_there", "_law_loan"] spCan := by
  obtain ⟨f, fd, D⟩ := D
  have nd := sc_Can.nd
  refine D.cal (D.F.ok sc_Can (fun vs H Q E h => ?_) fun cdv A outer s H vs Q E hr h => ⟨_, PSs.nox
    ((pss_cons (ps_set (i := 3) nd rfl (by first | exact Or.inl rfl | exact Or.inr rfl) (pe_callC CLSums (hr.mono (by decide)) (pa_cons (pv 0) pa_nil)))
      (pss_cons (ps_set (i := 4) nd rfl (by first | exact Or.inl rfl | exact Or.inr rfl) (pe_lock (pe_callB (cr_sortQ hr.units) rfl B.sorted boot_sorted (pa_cons (pe_lc (wi := (iKeys _)) (g := (gName 5)) (tt := _) (te := _) rfl nd (pi_keys (pv 3)) (blkOk_by (own := [("_law_sort", 5)]) (by kernel_rfl)) (fun _ _ _ _ _ => (pg_name (i := 5) nd rfl (by first | exact Or.inl rfl | exact Or.inr rfl))) (fun _ _ _ _ _ => (pts_one (pt_cmpR op_gt (pe_dget (hu_of hr) (pv 3) (pv 5) (fun _ _ => rfl)) (pv 2) (nomark _)))) (fun _ _ _ _ _ => (pv 5))) pa_nil))))
      (pss_cons (ps_set (i := 6) nd rfl (by first | exact Or.inl rfl | exact Or.inr rfl) (pe_lst (pa_cons (pe_tup pa_nil) pa_nil)))
      (pss_cons (ps_for PassesOwn.never rfl (RZ.pi_zipA rfl B.zip (pa_cons (pv 0) (pa_cons (pv 1) pa_nil))) (pg_tup rfl (pgs_cons (pg_name (i := 7) nd rfl (by first | exact Or.inl rfl | exact Or.inr rfl)) (pgs_cons (pg_name (i := 8) nd rfl (by first | exact Or.inl rfl | exact Or.inr rfl)) pgs_nil))) (pss_cons (ps_set (i := 9) nd rfl (by first | exact Or.inl rfl | exact Or.inr rfl) pe_new)
      (pss_cons (ps_for PassesOwn.never rfl (pi_list (pe_callC CLLots (hr.mono (by decide)) (pa_cons (pe_callC CLWord (hr.mono (by decide)) (pa_cons (pv 7) pa_nil)) (pa_cons (pe_callC CLWord (hr.mono (by decide)) (pa_cons (pv 8) pa_nil)) (pa_cons (pv 4) pa_nil))))) (pg_name (i := 10) nd rfl (by first | exact Or.inl rfl | exact Or.inr rfl)) (pss_one (ps_for PassesOwn.never rfl (pi_list (pv 6)) (pg_name (i := 11) nd rfl (by first | exact Or.inl rfl | exact Or.inr rfl)) (pss_one (ps_if (pt_not (pt_val (pe_callB (cr_any rfl) rfl B.any boot_any (pa_cons (pe_lc (wi := (iTup K _)) (g := (gName 5)) (tt := tYes) (te := (tOp (rIn K false) _ _)) rfl nd (pi_tup (pv 10)) (blkOk_by (own := [("_law_sort", 5)]) (by kernel_rfl)) (fun _ _ _ _ _ => (pg_name (i := 5) nd rfl (by first | exact Or.inl rfl | exact Or.inr rfl))) (fun _ _ _ _ _ => pts_nil) (fun _ _ _ _ _ => (pe_cmpR op_in_seq (pv 5) (pv 11) (by with_unfolding_all rfl)))) pa_nil)))) (pss_one (ps_asg pe_bl (pg_sub (pv 9) (pe_callTy call_tuple_of rfl B.tuple boot_tuple (pa_cons (pe_callB (cr_sortQ hr.units) rfl B.sorted boot_sorted (pa_cons (pe_op op_catA (pv 11) (pv 10)) pa_nil)) pa_nil)) (set_n hr.units)))) pss_nil)))))
      (pss_one (ps_set (i := 6) nd rfl (by first | exact Or.inl rfl | exact Or.inr rfl) (pe_callB (cr_sortN rfl hr.units) rfl B.sorted boot_sorted (pa_cons (pv 9) pa_nil)))))))
      (pss_one (ps_ret (pe_cmpR (op_inD (room65 hr)) (pe_callTy call_tuple_of rfl B.tuple boot_tuple (pa_cons (pv 4) pa_nil)) (pv 6) (by with_unfolding_all rfl))))))))), ?_⟩)
    (fun kV doc pm an cdv ct us hl => match us, hl with | [_, _, _], _ => rfl)
  · obtain ⟨v, u, S, T, loan, rfl, _⟩ := h; rfl
  · obtain ⟨v, u, S, T, loan, rfl, tv, tu, al, ok, l4, hq⟩ := h
    have so := sumsP_ok (flat S)
    have hk5 := al.kinds
    have hv5 : (hvL S loan).length ≤ 5 := by rw [hvL_eq]; exact Nat.le_trans (List.length_filter_le _ _) hk5
    have hvn : (hvL S loan).Nodup := by rw [hvL_eq]; exact heavy_nodup S loan
    have hvs : srtS (hvL S loan) = hvL S loan := KSrt.idem _
    have hsl : (sumsP (flat S)).length ≤ 1000 := Nat.le_trans (sumsP_len _) al.fS.2
    have key0 : EvR (fun H' => Same H H') (tCall spSums [] E0 (tCons (tVar 0) tNil)) [some v, some u, some (.int loan), none, none, none, none, none, none, none, none, none] fun v H => ∃ d, v = .ref d ∧ H d = some (.dK (kvL (sumsP (flat S)))) := er_sums (S := S) (ed_var rfl fun H' s => tv.up s) al.fS
    refine key0 H (Same.refl _) _ fun dv H1 s1 ⟨d, e, ed⟩ => ?_
    subst e
    refine q_gn ?_
    refine ⟨d, _, ed, trivial, fun od => ?_⟩
    have edf : (upd H1 d (.frz od (.dK (kvL (sumsP (flat S)))))) d = some (.frz od (.dK (kvL (sumsP (flat S))))) := by simp [upd]
    have hof : ∀ b o, b ≠ d → H1 b = some o → (upd H1 d (.frz od (.dK (kvL (sumsP (flat S)))))) b = some o := fun b o hb h => by rw [upd_ne hb]; exact h
    generalize upd H1 d (.frz od (.dK (kvL (sumsP (flat S))))) = Hf at edf hof ⊢
    have keyL : EvL (fun H' => Same Hf H') (tLc (iKeys (tVar 3)) (gName 5) (tTest (tOp (rI0 fun i j => V.bl (decide (j < i))) (tDGet (tVar 3) (tVar 5)) (tVar 2))) (tVar 5) [5]) [some v, some u, some (.int loan), some (.ref d), none, none, none, none, none, none, none, none] (((sumsP (flat S)).filter fun p => decide (loan < cnt (sumsP (flat S)) p.1)).map fun p => NestedKey.text p.1) := by
      refine el_lc (xs := sumsP (flat S)) (mk := fun p => NestedKey.text p.1) (fun p => decide (loan < cnt (sumsP (flat S)) p.1)) (fun p => NestedKey.text p.1) (ei_keys (d := d) (od := od) (er_var rfl fun H' s => ⟨rfl, s _ _ edf⟩)) (by omega) ?_
      intro H2 s2 p hp x Hx sx tx
      have e1 := tx.txt_inv
      subst e1
      exact eg_name ⟨Same.refl _, rfl, et_cmp (ed_sumIxF so.1 (er_var rfl fun H' s => ⟨d, od, rfl, s _ _ (sx _ _ (s2 _ _ edf))⟩) (ed_var rfl fun _ _ => .txt _) (List.mem_map.mpr ⟨p, hp, rfl⟩)) (ed_var rfl fun _ _ => .num loan) rb_I0, fun _ => ed_var rfl fun _ _ => .txt _⟩
    refine cb1 ?_
    refine keyL Hf (Same.refl _) _ fun hp hus H2 hhp s2 e2 t2 => ?_
    have htx : (((sumsP (flat S)).filter fun p => decide (loan < cnt (sumsP (flat S)) p.1)).map fun p => NestedKey.text p.1) = ((((sumsP (flat S)).filter fun p => decide (loan < cnt (sumsP (flat S)) p.1)).map (·.1)).map NestedKey.text) := by rw [List.map_map]; rfl
    rw [htx] at t2
    refine ⟨hp, hus, _, rfl, .inl (.inl (.inl e2)), t2, sortOk_texts (by rw [List.length_map]; exact Nat.le_trans (List.length_filter_le _ _) (by omega)), fun hl ys hhl t3 => ?_⟩
    rw [srtD_text] at t3
    have e3 := TpA.texts t3
    have e2d := s2 _ _ edf
    have hld : hl ≠ d := fun z => by rw [z, e2d] at hhl; cases hhl
    refine ⟨by rw [upd_ne (Ne.symm hld)]; exact e2d, ?_⟩
    have s13 : Same H1 (upd (upd H2 hl (.lst ys)) d (.dK (kvL (sumsP (flat S))))) := fun b o h => by
      by_cases hb : b = d
      · rw [hb] at h ⊢
        rw [ed] at h
        rw [← h]
        simp [upd]
      · have h2 := s2 _ _ (hof b o hb h)
        rw [upd_ne hb, upd_ne (fun z : b = hl => by rw [z, hhl] at h2; cases h2)]
        exact h2
    have ehl : (upd (upd H2 hl (.lst ys)) d (.dK (kvL (sumsP (flat S))))) hl = some (.lst ys) := by rw [upd_ne hld]; simp [upd]
    generalize upd (upd H2 hl (.lst ys)) d (.dK (kvL (sumsP (flat S)))) = H3 at s13 ehl ⊢
    have thl : TpA H3 ys ((hvL S loan).map NestedKey.text) := by rw [e3]; exact TpA.ofTexts _
    have s03 : Same H H3 := s1.trans s13
    clear s13 t3 e3 t2 e2 s2 keyL hof edf e2d hhl hhp
    refine q_gn ?_
    refine q_asgL (G := fun H' => Same H3 H') (ds := [txD []]) (el_lst (ea_cons (ed_tup ea_nil (Nat.zero_le _)) ea_nil) (show 1 ≤ 100000 by decide)) (Same.refl H3) fun kl kus H4 hkl s4 ekl tkl => ?_
    have s04 := s03.trans s4
    refine q_forI (G := fun H' => Same H4 H') (xs := S.zip T) (mk := fun p => .tup [shD p.1, shD p.2]) (EvJ.ei ((ei_zipT (ed_var rfl fun H' s => (tv.up s04).up s) (ed_var rfl fun H' s => (tu.up s04).up s)).to ?_)) (Same.refl H4) (fun H5 i τ H' => ∃ (o5 o7 o8 o9 o10 o11 : Option V) (kl : Addr) (kus : List V) (kn : List (List Str)), τ = [some v, some u, some (.int loan), some (.ref d), some (.ref hl), o5, some (.ref kl), o7, o8, o9, o10, o11] ∧ Same H5 H' ∧ Same H3 H' ∧ H' kl = some (.lst kus) ∧ TpA H' kus (kn.map txD) ∧ kn.length ≤ 32 ∧ KM.LKnown srtS (hvL S loan) ((wordsOf S T).take i) kn) ?_ ?_ ?_ ?_
    · rw [List.zip_map, List.map_map]; rfl
    · exact fun H5 s5 => ⟨none, none, none, none, none, none, kl, kus, [[]], rfl, Same.refl _, s4.trans s5, s5 _ _ ekl, tkl.up s5, by decide, by rw [List.take_zero]; exact KM.LKnown.start KSrt⟩
    · rintro H5 s5 i τ H' ⟨_, _, _, _, _, _, _, _, _, _, t, _⟩; exact t
    · rintro H5 s5 i ⟨sa, sb⟩ τ H' H'' x hx hxm ⟨o5, o7, o8, o9, o10, o11, kl, kus, kn, rfl, t, s3', ek, tk, k32, LKn⟩ s6 tx
      have hi := hx
      have hz := List.getElem?_zip_eq_some.mp hx
      have hsa := few_sh al.fS sa (List.mem_of_getElem? hz.1)
      have hsb := few_sh al.fT sb (List.mem_of_getElem? hz.2)
      have hw : (wordsOf S T).take (i + 1) = (wordsOf S T).take i ++ [(sa.map (·.1), sb.map (·.1))] := by
        unfold wordsOf
        rw [List.take_add_one, List.getElem?_map, hx]
        rfl
      refine eg_pair tx fun ua ub ta tb => ?_
      intro d2 o2 hd2 D2
      refine q_gn ?_
      have s67 := same_new (o := dnO d2 o2) hd2
      generalize upd H'' d2 (dnO d2 o2) = H6 at s67 D2 ⊢
      refine tFor_list ?_
      refine ⟨ua, rfl, ua, sa, rfl, ta.up s67, hsa, fun w1 H7 s7 wd1 => ?_⟩
      have tb7 := (tb.up s67).up s7
      refine ⟨ub, rfl, ub, sb, rfl, tb7, hsb, fun w2 H8 s8 wd2 => ?_⟩
      have s68 := s7.trans s8
      have s38 : Same H3 H8 := ((s3'.trans s6).trans s67).trans s68
      refine ⟨.ref hl, rfl, w1, w2, hl, ys, (sa.map (·.1), sb.map (·.1)), hvL S loan, rfl, wd1.up s8, wd2, s38 _ _ ehl, thl.up s38, by omega, hv5, hvn, fun p2 vs2 H9 ls hp2 s9 e9 t9 l32 hls => ?_⟩
      refine ⟨p2, rfl, ⟨_, .inl (.inl e9)⟩, ?_⟩
      have s69 := s68.trans s9
      have sN9 : Same H'' H9 := s67.trans s69
      have D9 := D2.up s69
      have hpd : p2 ≠ d2 := fun z => by rw [z, (D2.up s68).at_] at hp2; cases hp2
      have ek9 := sN9 _ _ (s6 _ _ ek)
      have tk9 := (tk.up s6).up sN9
      have hlot5 : ∀ lot ∈ ls, lot.length ≤ 5 := fun lot hm => by
        obtain ⟨r, _, n, h, e⟩ := (hls lot).mp hm
        rw [e, (srtS_perm _).length_eq]
        exact Nat.le_trans (nodup_len n h) hv5
      have hdn5 : ∀ dn ∈ kn, dn.length ≤ 5 := fun dn hm => by
        obtain ⟨rs, R, e⟩ := (LKn dn).mp hm
        rw [e, (srtS_perm _).length_eq]
        exact Nat.le_trans (nodup_len R.nd R.hv) hv5
      refine fo_list (xs := ls) (mk := txD) (us := vs2) (fun j τ H10 => ∃ (o5 o10 o11 : Option V) (o : Obj) (xs : List (E3 V)) (la : List (List Str)), τ = [some v, some u, some (.int loan), some (.ref d), some (.ref hl), o5, some (.ref kl), some ua, some ub, some (.ref d2), o10, o11] ∧ Same H'' H10 ∧ (∀ b ob, b ≠ d2 → H9 b = some ob → H10 b = some ob) ∧ Ts H9 H10 ∧ DNo P w H10 d2 o xs ∧ xs.map (·.1) = la.map txD ∧ LM ls kn la ∧ (∀ lot ∈ ls.take j, ∀ dn ∈ kn, (∀ k ∈ lot, k ∉ dn) → srtS (dn ++ lot) ∈ la)) ?_ ?_ ?_ ?_
      · exact ⟨o5, o10, o11, o2, [], [], rfl, sN9, fun _ _ _ e => e, Ts.of (Same.refl _), D9, rfl, ⟨List.nodup_nil, fun ks h => (nomatch h)⟩, fun lot h => by rw [List.take_zero] at h; cases h⟩
      · rintro j τ H10 ⟨o5, o10, o11, o, xs, la, rfl, sN, off, ts, _⟩
        exact ⟨off _ _ hpd e9, t9.mono ts⟩
      · rintro j lot τ H10 y hy hym ⟨o5, o10, o11, o, xs, la, rfl, sN, off, ts, Dn, hkeys, L, full⟩ ty
        have hl5 := hlot5 lot hym
        have ek10 := sN _ _ (s6 _ _ ek)
        have tk10 := (tk.up s6).up sN
        refine q_gu ?_
        refine tFor_list ?_
        refine ⟨.ref kl, rfl, kl, rfl, ⟨_, .inl (.inl ek10)⟩, ?_⟩
        refine fo_list (xs := kn) (mk := txD) (us := kus) (fun q τ H11 => ∃ (o5 o11 : Option V) (o : Obj) (xs : List (E3 V)) (la : List (List Str)), τ = [some v, some u, some (.int loan), some (.ref d), some (.ref hl), o5, some (.ref kl), some ua, some ub, some (.ref d2), some y, o11] ∧ Same H'' H11 ∧ (∀ b ob, b ≠ d2 → H9 b = some ob → H11 b = some ob) ∧ Ts H9 H11 ∧ Ts H10 H11 ∧ DNo P w H11 d2 o xs ∧ xs.map (·.1) = la.map txD ∧ LM ls kn la ∧ (∀ lot ∈ ls.take j, ∀ dn ∈ kn, (∀ k ∈ lot, k ∉ dn) → srtS (dn ++ lot) ∈ la) ∧ (∀ dn ∈ kn.take q, (∀ k ∈ lot, k ∉ dn) → srtS (dn ++ lot) ∈ la)) ?_ ?_ ?_ ?_
        · exact ⟨o5, o11, o, xs, la, rfl, sN, off, ts, Ts.of (Same.refl _), Dn, hkeys, L, full, fun dn h => by rw [List.take_zero] at h; cases h⟩
        · rintro q τ H11 ⟨o5, o11, o, xs, la, rfl, sN, off, ts, ts2, _⟩
          exact ⟨sN _ _ (s6 _ _ ek), (tk.up s6).up sN⟩
        · rintro q dn τ H11 z hz' hzm ⟨o5, o11, o, xs, la, rfl, sN, off, ts, ts2, Dn, hkeys, L, full, inn⟩ tz
          have hd5 := hdn5 dn hzm
          have ty11 := ty.mono ts2
          refine q_gu ?_
          refine q_if (G := fun H12 => Same H11 H12) (b := !((lot.map fun k => decide (k ∈ dn)).any id)) (et_not (et_test (eb_anyV (bs := lot.map fun k => decide (k ∈ dn)) ?_))) (Same.refl H11) (fun hb H12 s12 => ?_) fun hb H12 s12 => ?_
          · have z9 := ev_lc (G := fun H12 => Same H11 H12) (σ := [some v, some u, some (.int loan), some (.ref d), some (.ref hl), o5, some (.ref kl), some ua, some ub, some (.ref d2), some y, some z]) (xs := lot) (mk := NestedKey.text) (wi := iTup K (tVar 10)) (g := gName 5) (tt := tYes) (te := tOp (rIn K false) (tVar 5) (tVar 11)) (vs := [5]) (fun k => V.bl (decide (k ∈ dn))) (ei_tup (ed_var (d := txD lot) rfl fun H12 s => ty11.up s)).ei (by omega) (fun H12 s12 k hk Hx hx' sx tx' => ?_)
            · rw [List.map_map]
              exact z9
            · have e1 := tx'.txt_inv
              subst e1
              exact eg_name ⟨Same.refl _, rfl, et_yes, eb_op (ed_var rfl fun _ _ => .txt k) (ed_var (d := txD dn) rfl fun H13 s => (tz.up (s12.trans sx)).up s) rb_in⟩
          · have hdis : ∀ k ∈ lot, k ∉ dn := fun k hk hkd => by
              rw [Bool.not_eq_true', List.any_eq_false] at hb
              exact hb _ (List.mem_map.mpr ⟨k, hk, rfl⟩) (decide_eq_true hkd)
            have sN12 := sN.trans s12
            refine ⟨.ref d2, rfl, ?_⟩
            have key3 : EvD (fun H13 => Same H12 H13) (tCB (rTupOf K) (tCons (tCB (rSortQ K) (tCons (tOp (rCatA K) (tVar 11) (tVar 10)) tNil)) tNil)) [some v, some u, some (.int loan), some (.ref d), some (.ref hl), o5, some (.ref kl), some ua, some ub, some (.ref d2), some y, some z] (txD (srtS (dn ++ lot))) := ed_sortTx (ks := dn ++ lot) (EvD.to (ed_op (ed_var (d := txD dn) rfl fun H13 s => (tz.up s12).up s) (ed_var (d := txD lot) rfl fun H13 s => (ty11.up s12).up s) (rd_cat (by rw [List.length_map, List.length_map]; omega))) (by rw [← List.map_append])) (by rw [List.length_append]; omega)
            refine key3 H12 (Same.refl _) _ fun kv H13 s13 tk13 => ?_
            obtain ⟨ka, kxs, rfl, _⟩ := tk13.tup_inv
            have Dn13 := Dn.up (s12.trans s13)
            have hla := L.few hvn hv5 hls LKn
            have hxl : xs.length = la.length := by
              have := congrArg List.length hkeys
              rwa [List.length_map, List.length_map] at this
            refine ⟨d2, o, xs, txD (srtS (dn ++ lot)), ka, rfl, rfl, Dn13, tk13, Nat.le_trans (depth_txD _) (by decide), by have := sizeLine_eq; omega, fun o' Dn14 => ?_⟩
            have sN13 := sN12.trans s13
            have t1113 : Ts H11 H13 := Ts.of (s12.trans s13)
            refine ⟨_, _, o', _, addK la (srtS (dn ++ lot)), rfl, same_D sN13 hd2, fun b ob hb' hob => by rw [upd_ne hb']; exact s13 _ _ (s12 _ _ (off b ob hb' hob)), (ts.trans t1113).trans (Ts.dn Dn13.at_), (ts2.trans t1113).trans (Ts.dn Dn13.at_), Dn14, putN_keysK hkeys _ _ _, L.add hym hzm hdis, fun lot' hl' dn' hd' h => addK_mem.mpr (.inl (full lot' hl' dn' hd' h)), fun dn' hd' h => ?_⟩
            rw [List.take_add_one, hz'] at hd'
            rcases List.mem_append.mp hd' with hd' | hd'
            · exact addK_mem.mpr (.inl (inn dn' hd' h))
            · obtain rfl : dn' = dn := by simpa using hd'
              exact addK_mem.mpr (.inr rfl)
          · refine ⟨_, _, o, xs, la, rfl, sN.trans s12, fun b ob hb' hob => s12 _ _ (off b ob hb' hob), ts.trans (Ts.of s12), ts2.trans (Ts.of s12), Dn.up s12, hkeys, L, full, fun dn' hd' h => ?_⟩
            rw [List.take_add_one, hz'] at hd'
            rcases List.mem_append.mp hd' with hd' | hd'
            · exact inn dn' hd' h
            · obtain rfl : dn' = dn := by simpa using hd'
              rw [Bool.not_eq_false'] at hb
              obtain ⟨b, hb1, hb2⟩ := List.any_eq_true.mp hb
              obtain ⟨k, hk, rfl⟩ := List.mem_map.mp hb1
              exact absurd (of_decide_eq_true hb2) (h k hk)
        · rintro τ H11 ⟨o5, o11, o, xs, la, rfl, sN, off, ts, ts2, Dn, hkeys, L, full, inn⟩
          refine ⟨_, _, _, o, xs, la, rfl, sN, off, ts, Dn, hkeys, L, fun lot' hl' dn hd' h => ?_⟩
          rw [List.take_add_one, hy] at hl'
          rcases List.mem_append.mp hl' with hl' | hl'
          · exact full lot' hl' dn hd' h
          · obtain rfl : lot' = lot := by simpa using hl'
            rw [List.take_length] at inn
            exact inn dn hd' h
      · rintro τ H10 ⟨o5, o10, o11, o, xs, la, rfl, sN, off, ts, Dn, hkeys, L, full⟩
        rw [List.take_length] at full
        have hla := L.few hvn hv5 hls LKn
        refine q_nx ?_
        refine ⟨.ref d2, rfl, d2, o, xs, rfl, Dn, by rw [hkeys]; exact sortOk_keys (by omega), fun q ys2 hq' t10 => ?_⟩
        rw [hkeys, srtT_map] at t10
        have sn := same_new (o := .lst ys2) hq'
        refine ⟨_, _, _, _, _, _, q, ys2, srtT la, rfl, ((t.trans s6).trans sN).trans sn, ((s3'.trans s6).trans sN).trans sn, by simp [upd], t10.up sn, by rw [(srtT_perm la).length_eq]; exact hla, ?_⟩
        rw [hw]
        refine KM.LKnown.step KSrt LKn hls fun ks => ?_
        rw [(srtT_perm la).mem_iff]
        refine ⟨L.snd ks, ?_⟩
        rintro ⟨lot, h1, dn, h2, h3, rfl⟩
        exact full lot h1 dn h2 h3
    · rintro H5 s5 τ H' ⟨o5, o7, o8, o9, o10, o11, kl, kus, kn, rfl, t, s3', ek, tk, k32, LKn⟩
      have htw : (wordsOf S T).take (S.zip T).length = wordsOf S T := by
        have : (wordsOf S T).length = (S.zip T).length := by unfold wordsOf; rw [List.length_map]
        rw [← this, List.take_length]
      rw [htw] at LKn
      have hvok : ∀ k ∈ hvL S loan, OkT k := fun k hk => by
        rw [hvL_eq] at hk
        obtain ⟨s', hs', hm⟩ := mem_kinds.mp (mem_heavy.mp hk).1
        obtain ⟨p, hp, rfl⟩ := List.mem_map.mp hm
        exact ok s' hs' p hp
      have txok : ∀ ks : List Str, (∀ k ∈ ks, k ∈ hvL S loan) → TxOk (txD ks) := fun ks h => tx_tup fun dd hd => by
        obtain ⟨k, hk, rfl⟩ := List.mem_map.mp hd
        exact tx_text (hvok k (h k hk))
      refine q_nx ?_
      refine q_retOp ?_
      have keyT : EvD (fun H9 => Same H' H9) (tCB (rTupOf K) (tCons (tVar 4) tNil)) [some v, some u, some (.int loan), some (.ref d), some (.ref hl), o5, some (.ref kl), o7, o8, o9, o10, o11] (txD (hvL S loan)) := ed_tupS (es_var rfl fun H9 s => ⟨ys, s _ _ (s3' _ _ ehl), (thl.up s3').up s⟩)
      refine keyT H' (Same.refl _) _ fun x9 H9 s9 t9 => ?_
      refine ⟨.ref kl, rfl, (txD (hvL S loan)).data, NestedKey.datas (kn.map txD), tp_dp _ _ t9, .lst (.inl (.inl (s9 _ _ ek))) (tpA_dp _ _ (tk.up s9)), shaped_tx (txok _ fun k h => h) (Nat.le_trans (depth_txD _) (by decide)), shaped_list (fun dd hd => ?_) (fun dd hd => ?_), ?_⟩
      · obtain ⟨ks, hks, rfl⟩ := List.mem_map.mp hd
        obtain ⟨rs, R, e⟩ := (LKn ks).mp hks
        exact txok ks fun k hk => R.hv k (by rw [e] at hk; exact KSrt.mem.mp hk)
      · obtain ⟨ks, hks, rfl⟩ := List.mem_map.mp hd
        exact Nat.le_trans (depth_txD _) (by decide)
      · rw [eqv_in]
        refine hq _ H9 (s03.trans (s3'.trans s9)) ?_
        rw [decide_eq_true_eq, ← hvL_eq]
        exact KM.LKnown.meet KSrt LKn hvs hvn
end
end K8
end

section
set_option Elab.async false
set_option linter.all false
set_option maxRecDepth 100000
set_option maxHeartbeats 4000000
/-! K81: _law_same, of flags and of lists of flags. -/
namespace K8
open PySem PySem.Spec PyProof.Rows L2
section
variable {G : Hp → Prop} {σ : L2.St} {K : PySem.W.Frag} {ta tb : TE}
theorem eb_isi {i : Nat} {x : V} {t c : String} {b : Bool} (h : σ[i]? = some (some x)) (ty : ∀ H, G H → TyX K H x (.type t)) (e : kitB t c = some b) : EvB G (tCB (rIsi K) (tCons (tVar i) (tCons (tC (.ty c)) tNil))) σ b := fun H1 g Q q =>
  ⟨x, h, x, .ty c, .type t, .type c, b, rfl, .ty c, ty H1 g, kit_ty e, q _ H1 (Same.refl _) rfl⟩
theorem eb_isiT {i : Nat} {x : V} {t : String} {b1 b2 : Bool} (h : σ[i]? = some (some x)) (ty : ∀ H, G H → ∀ H', Same H H' → TyX K H' x (.type t)) (e1 : kitB t "list" = some b1) (e2 : kitB t "tuple" = some b2) : EvB G (tCB (rIsiT K) (tCons (tVar i) (tCons (tTup (tCons (tC (.ty "list")) (tCons (tC (.ty "tuple")) tNil))) tNil))) σ (b1 || b2) := fun H1 g Q q =>
  ⟨x, h, (show 2 ≤ sizeLine by decide), fun tp htp => ⟨x, tp, [.ty "list", .ty "tuple"], .type t, [.type "list", .type "tuple"], b1 || b2, rfl, by simp [upd], .cons (.ty _) (.cons (.ty _) .nil), ty H1 g _ (same_new htp),
    kitAny_cons (kit_ty e1) (fun h1 => by rw [h1, Bool.false_or]; exact kitAny_cons (kit_ty e2) (fun h2 => by rw [h2]; exact kitAny_nil) fun h2 => h2) (fun h1 => by rw [h1]; rfl), q _ _ (same_new htp) rfl⟩⟩
theorem eb_eqB {a b : Bool} [Stb G] (ha : EvB G ta σ a) (hb : EvB G tb σ b) : EvB G (tOp rEq ta tb) σ (decide (a = b)) := fun H1 g Q q =>
  ha H1 g _ fun v H2 s e => hb H2 (Stb.up g s) _ fun u H3 s3 e3 => by
    subst e e3
    refine ⟨rfl, q _ H3 (s.trans s3) ?_⟩
    congr 1
    rw [decide_eq_decide]
    exact ⟨fun z => V.bl.inj z, fun z => by rw [z]⟩
theorem eb_neB {a b : Bool} [Stb G] (ha : EvB G ta σ a) (hb : EvB G tb σ b) : EvB G (tOp rNe ta tb) σ (!decide (a = b)) := fun H1 g Q q =>
  ha H1 g _ fun v H2 s e => hb H2 (Stb.up g s) _ fun u H3 s3 e3 => by
    subst e e3
    refine ⟨rfl, q _ H3 (s.trans s3) ?_⟩
    congr 2
    rw [decide_eq_decide]
    exact ⟨fun z => V.bl.inj z, fun z => by rw [z]⟩
theorem ev_zipB {p q : Addr} {as bs : List Bool} (hl : as.length = bs.length) (hn : as.length ≤ 1000) (e0 : ∀ H, G H → H p = some (.lst (as.map V.bl))) (e1 : ∀ H, G H → H q = some (.lst (bs.map V.bl)))
    {sp : Sp} (hsp : ∀ (a b : Bool) H Q, (∀ H', Same H H' → Q (.bl (decide (a = b))) H') → sp [.bl a, .bl b] H Q E0) :
    EvV G (tLc (RZ.iZipA K (tCons (tVar 0) (tCons (tVar 1) tNil))) (gTup K 2 (gCons (gName 2) (gCons (gName 3) gNil))) tYes (tCall sp [] E0 (tCons (tVar 2) (tCons (tVar 3) tNil))) [2, 3]) [some (.ref p), some (.ref q), none, none] (((as.zip bs).map fun x => decide (x.1 = x.2)).map V.bl) := fun H1 g Q hq => by
  have ep := e0 H1 g
  have eq := e1 H1 g
  refine ⟨.ref p, rfl, .ref q, rfl, p, q, as.map V.bl, bs.map V.bl, rfl, .inl ⟨.inl (.inl ep), .inl (.inl eq), fun D hD => ?_⟩⟩
  refine lc_it (walk_zip (n := as.length) (xs := as.map V.bl) (ys := bs.map V.bl) (by rw [List.length_map, List.length_map]; omega)) (fun i H => Same H1 H ∧ H D = some (.lst ((((as.zip bs).take i).map fun x => decide (x.1 = x.2)).map V.bl))) ?_ ?_ ?_ ?_
  · exact ⟨same_D (Same.refl _) hD, by simp [upd]⟩
  · rintro i H _ ⟨s, _⟩
    exact ⟨.inl (.inl (s _ _ ep)), .inl (.inl (s _ _ eq))⟩
  · rintro i x H H' hi ⟨s, e⟩ ⟨T, x1, y1, rfl, hT, rfl, hx, hy⟩
    have hib : i < bs.length := by omega
    have hx1 : x1 = .bl as[i] := by
      have hx : (as.map V.bl)[i]? = some x1 := hx
      rw [List.getElem?_map, List.getElem?_eq_getElem hi] at hx
      exact (Option.some.inj hx).symm
    have hy1 : y1 = .bl bs[i] := by
      have hy : (bs.map V.bl)[i]? = some y1 := hy
      rw [List.getElem?_map, List.getElem?_eq_getElem hib] at hy
      exact (Option.some.inj hy).symm
    subst hx1 hy1
    have sn := same_new (o := .tup [.bl as[i], .bl bs[i]]) hT
    refine ⟨T, [.bl as[i], .bl bs[i]], rfl, .inl (.inl (by simp [upd])), rfl, _, _, rfl, _, _, rfl, rfl, rfl, ?_⟩
    refine yes_go ?_
    refine ⟨_, rfl, _, rfl, ?_⟩
    refine hsp _ _ _ _ fun H5 s5 => ?_
    have e' := s5 _ _ (sn _ _ e)
    have hz : (as.zip bs)[i]? = some (as[i], bs[i]) := List.getElem?_zip_eq_some.mpr ⟨List.getElem?_eq_getElem hi, List.getElem?_eq_getElem hib⟩
    refine ⟨_, e', ?_, same_D ((s.trans sn).trans s5) hD, ?_⟩
    · rw [List.length_map, List.length_map, List.length_take, sizeLine_eq]; omega
    · rw [List.take_add_one, hz, List.map_append, List.map_append]
      simp only [upd, if_true]
      rfl
  · rintro H ⟨s, e⟩
    have : (as.zip bs).take as.length = as.zip bs := List.take_of_length_le (by rw [List.length_zip]; omega)
    rw [this] at e
    exact hq D H hD s e
theorem zip_all : ∀ {as bs : List Bool}, as.length = bs.length → (((as.zip bs).map fun x => decide (x.1 = x.2)).all id) = decide (as = bs)
  | [], [], _ => rfl
  | a :: as, b :: bs, h => by
    have ih := zip_all (as := as) (bs := bs) (by simpa using h)
    show (decide (a = b) && ((as.zip bs).map fun x => decide (x.1 = x.2)).all id) = _
    rw [ih, ← Bool.decide_and, decide_eq_decide]
    exact ⟨fun z => by rw [z.1, z.2], fun z => by cases z; exact ⟨rfl, rfl⟩⟩
end
abbrev nSame : List Str := ["_law_found", "_law_due", "_law_one", "_law_two"]
theorem sc_Same : FnScope nSame ["_law_found", "_law_due"] (defScope (K81.top 19)) := ⟨rfl, rfl, rfl, by decide +kernel, rfl, by decide +kernel, by decide +kernel⟩
/-- 1: flags; 2: lists of flags, too -/
def spSame (n : Nat) : Sp := fun vs H Q _ => (∃ a b : Bool, vs = [.bl a, .bl b] ∧ 1 ≤ n ∧ ∀ H', Same H H' → Q (.bl (decide (a = b))) H') ∨
  ∃ (p q : Addr) (as bs : List Bool), vs = [.ref p, .ref q] ∧ 2 ≤ n ∧ H p = some (.lst (as.map V.bl)) ∧ H q = some (.lst (bs.map V.bl)) ∧ as.length ≤ 1000 ∧ bs.length ≤ 1000 ∧ ∀ H', Same H H' → Q (.bl (decide (as = bs))) H'
section
variable {P : Program} {w : World} {K : PySem.W.Frag} {mg : Str → Option Value} {base : Heap}
theorem cal_Same (B : Bi mg) (D : DfE K mg "_law_same" 19) (d : Nat) : Cal P w K mg base "_law_same" d ["_law_found", "_law_due"] (spSame d) := by
  obtain ⟨f, fd, D⟩ := D
  induction d with
  | zero =>
    refine D.cal ⟨fun vs H Q E h => ?_, fun A outer s H args us vs Q E _ _ _ _ h => ?_⟩ (fun kV doc pm an cdv ct us hl => match us, hl with | [_, _], _ => rfl)
    · rcases h with ⟨_, _, _, z, _⟩ | ⟨_, _, _, _, _, z, _⟩ <;> exact absurd z (by decide)
    · rcases h with ⟨_, _, _, z, _⟩ | ⟨_, _, _, _, _, z, _⟩ <;> exact absurd z (by decide)
  | succ d CLSame =>
    have nd := sc_Same.nd
    refine D.cal (D.F.ok sc_Same (fun vs H Q E h => ?_) fun cdv A outer s H vs Q E hr h => ⟨_, PSs.nox
      ((pss_cons (ps_if (pt_val (pe_callB call_isiT rfl B.isinstance boot_isinstance (pa_cons (pv 1) (pa_cons (pe_tup (pa_cons (pe_bltn (v := .ty "list") rfl B.list boot_list rfl) (pa_cons (pe_bltn (v := .ty "tuple") rfl B.tuple boot_tuple rfl) pa_nil))) pa_nil)))) (pss_cons (ps_if (PW.pt (pw_or (pt_cmpR op_ne (pe_callB call_isi rfl B.isinstance boot_isinstance (pa_cons (pv 0) (pa_cons (pe_bltn (v := .ty "list") rfl B.list boot_list rfl) pa_nil))) (pe_callB call_isi rfl B.isinstance boot_isinstance (pa_cons (pv 1) (pa_cons (pe_bltn (v := .ty "list") rfl B.list boot_list rfl) pa_nil))) (nomark _)) (pw_or1 (pt_cmpR op_ne (pe_callB call_isi rfl B.isinstance boot_isinstance (pa_cons (pv 0) (pa_cons (pe_bltn (v := .ty "tuple") rfl B.tuple boot_tuple rfl) pa_nil))) (pe_callB call_isi rfl B.isinstance boot_isinstance (pa_cons (pv 1) (pa_cons (pe_bltn (v := .ty "tuple") rfl B.tuple boot_tuple rfl) pa_nil))) (nomark _))))) (pss_one (ps_ret pe_bl)) pss_nil)
      (pss_one (ps_ret (pe_and (pe_cmpR op_eq (pe_callB call_len_seq rfl B.len PySem.boot_len (pa_cons (pv 0) pa_nil)) (pe_callB call_len_seq rfl B.len PySem.boot_len (pa_cons (pv 1) pa_nil)) (nomark _)) (pe_one (pe_callB (cr_all rfl) rfl B.all boot_all (pa_cons (pe_lc (wi := (RZ.iZipA K _)) (g := (gTup K 2 (gCons (gName 2) (gCons (gName 3) gNil)))) (tt := tYes) (te := _) rfl nd (RZ.pi_zipA rfl B.zip (pa_cons (pv 0) (pa_cons (pv 1) pa_nil))) (blkOk_by (own := [("_law_one", 2), ("_law_two", 3)]) (by kernel_rfl)) (fun _ _ _ _ _ => (pg_tup rfl (pgs_cons (pg_name (i := 2) nd rfl (by first | exact Or.inl rfl | exact Or.inr rfl)) (pgs_cons (pg_name (i := 3) nd rfl (by first | exact Or.inl rfl | exact Or.inr rfl)) pgs_nil)))) (fun _ _ _ _ _ => pts_nil) (fun _ _ _ _ _ => (pe_callC CLSame (hr.mono (Nat.le_refl _)) (pa_cons (pv 2) (pa_cons (pv 3) pa_nil))))) pa_nil))))))) pss_nil)
      (pss_cons (ps_if (PW.pt (pw_or (pt_cmpR op_isN (pv 1) pe_non (nomark _)) (pw_or1 (pt_val (pe_callB call_isi rfl B.isinstance boot_isinstance (pa_cons (pv 1) (pa_cons (pe_bltn (v := .ty "str") rfl B.str boot_str rfl) pa_nil))))))) (pss_one (ps_ret (pe_and (pe_cmpR op_eq (pv 0) (pv 1) (nomark _)) (pe_one (pe_cmpR op_eq (pe_callB call_isi rfl B.isinstance boot_isinstance (pa_cons (pv 0) (pa_cons (pe_bltn (v := .ty "str") rfl B.str boot_str rfl) pa_nil))) (pe_callB call_isi rfl B.isinstance boot_isinstance (pa_cons (pv 1) (pa_cons (pe_bltn (v := .ty "str") rfl B.str boot_str rfl) pa_nil))) (nomark _)))))) pss_nil)
      (pss_one (ps_ret (pe_and (pe_callB call_isi rfl B.isinstance boot_isinstance (pa_cons (pv 0) (pa_cons (pe_bltn (v := .ty "int") rfl B.int boot_int rfl) pa_nil))) (pe_and (pe_cmpR op_eq (pe_callB call_isi rfl B.isinstance boot_isinstance (pa_cons (pv 0) (pa_cons (pe_bltn (v := .ty "bool") rfl B.bool boot_bool rfl) pa_nil))) (pe_callB call_isi rfl B.isinstance boot_isinstance (pa_cons (pv 1) (pa_cons (pe_bltn (v := .ty "bool") rfl B.bool boot_bool rfl) pa_nil))) (nomark _)) (pe_one (pe_cmpR op_eq (pv 0) (pv 1) (nomark _)))))))))), ?_⟩)
      (fun kV doc pm an cdv ct us hl => match us, hl with | [_, _], _ => rfl)
    · rcases h with ⟨a, b, rfl, _⟩ | ⟨p, q, as, bs, rfl, _⟩ <;> rfl
    · rcases h with ⟨a, b, rfl, h1, hq⟩ | ⟨p, q, as, bs, rfl, h2, ep, eq, la, lb, hq⟩
      · have tb : ∀ {H1 H' : Hp}, Same H1 H' → TyX K H' (.bl b) (.type "bool") := fun _ => .base (.bl b)
        have ta : ∀ {H1 H' : Hp}, Same H1 H' → TyX K H' (.bl a) (.type "bool") := fun _ => .base (.bl a)
        refine q_if (G := fun H' => Same H H') (b := false) (et_b (eb_isiT (K := K) (t := "bool") (b1 := false) (b2 := false) rfl (fun _ _ _ s => tb s) (by decide +kernel) (by decide +kernel))) (Same.refl H) (fun z => nomatch z) fun _ H1 s1 => ?_
        refine q_nx ?_
        refine q_if (G := fun H' => Same H1 H') (b := false) (EvT.to (et_or (a := false) (c := false) (fun H2 s2 Q q => ⟨.bl b, rfl, rfl, _, rfl, q H2 (Same.refl _)⟩) fun _ => et_b (eb_isi (K := K) (t := "bool") rfl (fun _ s => tb s) (by decide +kernel))) rfl) (Same.refl H1) (fun z => nomatch z) fun _ H2 s2 => ?_
        refine q_nx ?_
        refine eb_and (G := fun H' => Same H2 H') (a := true) (c := true && decide (a = b)) (eb_isi (K := K) (t := "bool") rfl (fun _ s => ta s) (by decide +kernel)) (fun _ => eb_and (a := true) (EvB.to (eb_eqB (a := true) (b := true) (eb_isi (K := K) (t := "bool") rfl (fun _ s => ta s) (by decide +kernel)) (eb_isi (K := K) (t := "bool") rfl (fun _ s => tb s) (by decide +kernel))) rfl) fun _ => eb_eqB (fun H3 _ Q q => ⟨_, rfl, q _ H3 (Same.refl _) rfl⟩) (fun H3 _ Q q => ⟨_, rfl, q _ H3 (Same.refl _) rfl⟩)) H2 (Same.refl _) _ fun v H3 s3 e => ?_
        subst e
        exact hq H3 ((s1.trans s2).trans s3)
      · have hd1 : 1 ≤ d := by omega
        have tp : ∀ {H1 H' : Hp}, Same H H1 → Same H1 H' → TyX K H' (.ref p) (.type "list") := fun s s' => .base (.lst (s' _ _ (s _ _ ep)))
        have tq : ∀ {H1 H' : Hp}, Same H H1 → Same H1 H' → TyX K H' (.ref q) (.type "list") := fun s s' => .base (.lst (s' _ _ (s _ _ eq)))
        refine q_if (G := fun H' => Same H H') (b := true) (et_b (eb_isiT (K := K) (t := "list") (b1 := true) (b2 := false) rfl (fun _ s _ s' => tq s s') (by decide +kernel) (by decide +kernel))) (Same.refl H) (fun _ H1 s1 => ?_) fun z => nomatch z
        refine q_if (G := fun H' => Same H1 H') (b := false) (EvT.to (et_or (a := false) (c := false) (EvT.to (et_test (eb_neB (a := true) (b := true) (eb_isi (K := K) (t := "list") rfl (fun _ s => tp s1 s) (by decide +kernel)) (eb_isi (K := K) (t := "list") rfl (fun _ s => tq s1 s) (by decide +kernel)))) rfl) fun _ => EvT.to (et_test (eb_neB (a := false) (b := false) (eb_isi (K := K) (t := "list") rfl (fun _ s => tp s1 s) (by decide +kernel)) (eb_isi (K := K) (t := "list") rfl (fun _ s => tq s1 s) (by decide +kernel)))) rfl) rfl) (Same.refl H1) (fun z => nomatch z) fun _ H2 s2 => ?_
        refine q_nx ?_
        have s02 := s1.trans s2
        have ep2 := s02 _ _ ep
        have eq2 := s02 _ _ eq
        by_cases hl : as.length = bs.length
        · refine eb_and (G := fun H' => Same H2 H') (a := true) (c := decide (as = bs)) (fun H3 s3 Q q => ?_) (fun _ => EvB.to (eb_allV (ev_zipB hl la (fun _ s => s _ _ ep2) (fun _ s => s _ _ eq2) fun a b H Q h => .inl ⟨a, b, rfl, hd1, h⟩)) (zip_all hl)) H2 (Same.refl _) _ fun v H3 s3 e => ?_
          · refine ⟨_, rfl, p, _, rfl, .inl (.inl (.inl (s3 _ _ ep2))), _, rfl, _, _, rfl, .inl (.inl (.inl (s3 _ _ eq2))), rfl, q _ H3 (Same.refl _) ?_⟩
            rw [List.length_map, List.length_map, hl]
            exact congrArg V.bl (decide_eq_true rfl)
          · subst e
            exact hq H3 (s02.trans s3)
        · have hne : as ≠ bs := fun z => hl (by rw [z])
          have := hq H2 s02
          rw [decide_eq_false hne] at this
          refine ⟨_, rfl, p, _, rfl, .inl (.inl (.inl ep2)), _, rfl, _, _, rfl, .inl (.inl (.inl eq2)), rfl, false, congrArg V.bl (decide_eq_false fun z => hl ?_), go_f this⟩
          have := V.int.inj z
          rw [List.length_map, List.length_map] at this
          omega
end
end K8
end

section
set_option Elab.async false
set_option linter.all false
/-! K81: what a meeting found is, plainly. -/
namespace K8
open PySem
theorem alk_of {S T : List Sh} {n m : Nat} (gS : Gd S n) (gT : Gd T m) (k : Kept S T) (hn : n ≤ 100) (hm : m ≤ 100) : Alk S T := by
  refine ⟨gS.few (by omega), gT.few (by omega), ⟨?_, ?_⟩, k.len.symm, gS.len1, fun z => ?_, gS.kinds⟩
  · rw [List.length_append]; have := gS.len4; have := gT.len4; omega
  · have h1 := gS.rows
    have h2 := gT.rows
    have : flat (S ++ T) = flat S ++ flat T := flat_app S T
    show (flat (S ++ T)).length ≤ _
    rw [this, List.length_append]; omega
  · rw [many_cnt, many_cnt]; exact (k.cnt z).symm
theorem many_kept {S T : List Sh} (k : Kept S T) (z : Str) : manyOf T z = manyOf S z := by rw [many_cnt, many_cnt]; exact k.cnt z
theorem light_kept {S T : List Sh} {n m : Nat} (gS : Gd S n) (gT : Gd T m) (k : Kept S T) (l : Int) : lightOf T l = lightOf S l := by
  unfold lightOf
  rw [kinds_kept gS.pos gT.pos k]
  congr 1
  funext z
  rw [many_kept k]
theorem heavy_kept {S T : List Sh} {n m : Nat} (gS : Gd S n) (gT : Gd T m) (k : Kept S T) (l : Int) : heavyOf T l = heavyOf S l := by
  unfold heavyOf
  rw [kinds_kept gS.pos gT.pos k, light_kept gS gT k]
theorem words_swap : ∀ S T : List Sh, wordsOf T S = (wordsOf S T).map fun w => (w.2, w.1)
  | [], T => by cases T <;> rfl
  | _ :: _, [] => rfl
  | s :: S, t :: T => by
    show (t.map (·.1), s.map (·.1)) :: wordsOf T S = (t.map (·.1), s.map (·.1)) :: (wordsOf S T).map fun w => (w.2, w.1)
    rw [words_swap S T]
theorem meet_swap {S T : List Sh} {n m : Nat} (gS : Gd S n) (gT : Gd T m) (k : Kept S T) (l : Int) : KM.Meet (wordsOf T S) (heavyOf T l) ↔ KM.Meet (wordsOf S T) (heavyOf S l) := by
  rw [heavy_kept gS gT k]
  constructor
  · intro h
    rw [words_swap T S]
    exact h.swap
  · intro h
    rw [words_swap S T]
    exact h.swap
theorem met_flat (S : List Sh) : ∀ qs : List (List Str), flat (metSt S qs) = qs.flatten.map fun k => (k, manyOf S k)
  | [] => rfl
  | q :: qs => by
    show (q.map fun k => (k, manyOf S k)) ++ flat (metSt S qs) = _
    rw [met_flat S qs, List.flatten_cons, List.map_append]
theorem addLight_perm {light : List Str} {rs : List (List Str)} (h : rs ≠ []) : (addLight light rs).flatten.Perm (rs.flatten ++ light) := by
  cases rs with
  | nil => exact absurd rfl h
  | cons r rs =>
    show ((r ++ light) ++ rs.flatten).Perm ((r ++ rs.flatten) ++ light)
    rw [List.append_assoc, List.append_assoc]
    exact List.Perm.append_left _ List.perm_append_comm
theorem heavy_light_perm (S : List Sh) (l : Int) : (heavyOf S l ++ lightOf S l).Perm (kindsOf S) := by
  have hd : (heavyOf S l ++ lightOf S l).Nodup := List.nodup_append.mpr ⟨heavy_nodup S l, light_nodup S l, fun a ha b hb e => by
    have h1 := (mem_heavy.mp ha).2
    have h2 := (mem_light.mp hb).2
    rw [e] at h1
    omega⟩
  refine (List.perm_ext_iff_of_nodup hd (kinds_nodup S)).mpr fun k => ?_
  rw [List.mem_append, mem_heavy, mem_light]
  constructor
  · rintro (h | h) <;> exact h.1
  · intro h
    by_cases hk : manyOf S k ≤ l
    · exact .inr ⟨h, hk⟩
    · exact .inl ⟨h, by omega⟩
theorem cnt_keys {ks : List Str} (hn : ks.Nodup) (f : Str → Int) (z : Str) : cnt (ks.map fun k => (k, f k)) z = if z ∈ ks then f z else 0 := by
  induction ks with
  | nil => rfl
  | cons k ks ih =>
    obtain ⟨h1, h2⟩ := List.nodup_cons.mp hn
    rw [List.map_cons, cnt_cons, ih h2]
    simp only [List.mem_cons]
    by_cases e : k = z
    · rw [if_pos e, if_neg (fun h => h1 (by rw [e]; exact h)), if_pos (.inl e.symm), e]; omega
    · rw [if_neg e]
      by_cases h : z ∈ ks
      · rw [if_pos h, if_pos (.inr h)]; omega
      · rw [if_neg h, if_neg (fun q => q.elim (fun q => e q.symm) h)]; omega
theorem many_zero {S : List Sh} {z : Str} (h : z ∉ kindsOf S) : manyOf S z = 0 := by
  rw [many_cnt]
  exact cnt_zero fun q => h (mem_flat.mpr q)
theorem filter_range (p : Rw → Bool) : ∀ (sh : Sh) (n : Nat) (q : Nat → Bool), (∀ (i : Nat) (x : Rw), sh[i]? = some x → q (n + i) = p x) → ((List.range' n sh.length).filter q).length = (sh.filter p).length
  | [], n, q, _ => rfl
  | x :: sh, n, q, h => by
    have h0 := h 0 x rfl
    have ih := filter_range p sh (n + 1) q fun i y hy => by
      have := h (i + 1) y hy
      rw [← this]
      congr 1
      omega
    rw [List.length_cons, List.range'_succ, List.filter_cons, List.filter_cons]
    rw [Nat.add_zero] at h0
    rw [h0]
    by_cases hp : p x = true
    · rw [if_pos hp, if_pos hp, List.length_cons, List.length_cons, ih]
    · rw [if_neg hp, if_neg hp, ih]
theorem spotsAt_cnt (k : Str) (x : Sh × Nat) : (spotsAt k x).length = (x.1.filter fun q => decide (q.1 = k)).length := by
  unfold spotsAt
  rw [List.length_map, List.range_eq_range']
  refine filter_range _ x.1 0 _ fun i y hy => ?_
  unfold rowIs
  rw [Nat.zero_add, hy]
theorem spots_cnt (k : Str) : ∀ (S : List Sh) (n : Nat), ((S.zipIdx n).flatMap (spotsAt k)).length = ((flat S).filter fun q => decide (q.1 = k)).length
  | [], _ => rfl
  | s :: S, n => by
    rw [List.zipIdx_cons, List.flatMap_cons, List.length_append, spotsAt_cnt, spots_cnt k S (n + 1), flat_cons, List.filter_append, List.length_append]
theorem spots_one {M : List Sh} (hn : ((flat M).map (·.1)).Nodup) (k : Str) : (spotsOf M k).length ≤ 1 := by
  unfold spotsOf
  rw [spots_cnt]
  have h1 : (((flat M).filter fun q => decide (q.1 = k)).map (·.1)).Nodup := hn.sublist (List.filter_sublist.map _)
  have h2 := nodup_len (m := [k]) h1 fun x hx => by
    obtain ⟨q, hq, rfl⟩ := List.mem_map.mp hx
    exact List.mem_singleton.mpr (of_decide_eq_true (List.mem_filter.mp hq).2)
  rwa [List.length_map] at h2
theorem takeWhile_two {α : Type} {p : α → Bool} : ∀ {a b : List α}, (∀ x ∈ a, p x = true) → (∀ x ∈ b, p x = false) → (a ++ b).takeWhile p = a
  | [], [], _, _ => rfl
  | [], x :: b, _, hb => by rw [List.nil_append, List.takeWhile_cons, hb x List.mem_cons_self]; rfl
  | x :: a, b, ha, hb => by
    rw [List.cons_append, List.takeWhile_cons, ha x List.mem_cons_self, takeWhile_two (a := a) (fun y hy => ha y (List.mem_cons_of_mem _ hy)) hb]
    rfl
/-- the meeting's plank -/
structure Fnd (S M : List Sh) (l : Int) (rs : List (List Str)) : Prop where
  len : M.length = S.length
  keys : ((flat M).map (·.1)).Perm (kindsOf S)
  cnt : ∀ z, cnt (flat M) z = cnt (flat S) z
theorem fnd_of {S T : List Sh} {l : Int} {rs : List (List Str)} (al : Alk S T) (a : KM.All2 (wordsOf S T) rs) (p : rs.flatten.Perm (heavyOf S l)) : Fnd S (metSt S (addLight (lightOf S l) rs)) l rs := by
  have hrl : rs.length = S.length := by
    rw [a.length]
    unfold wordsOf
    rw [List.length_map, List.length_zip, al.len]
    omega
  have hne : rs ≠ [] := fun z => by rw [z] at hrl; have := al.pos; simp at hrl; omega
  have hp : (addLight (lightOf S l) rs).flatten.Perm (kindsOf S) := (addLight_perm hne).trans ((p.append_right _).trans (heavy_light_perm S l))
  have hn : (addLight (lightOf S l) rs).flatten.Nodup := hp.nodup_iff.mpr (kinds_nodup S)
  refine ⟨?_, ?_, fun z => ?_⟩
  · unfold metSt
    rw [List.length_map, ← hrl]
    cases rs <;> rfl
  · rw [met_flat, List.map_map]
    have : ((·.1) ∘ fun k => (k, manyOf S k)) = (id : Str → Str) := rfl
    rw [this, List.map_id]
    exact hp
  · rw [met_flat, cnt_keys hn]
    have hm : z ∈ (addLight (lightOf S l) rs).flatten ↔ z ∈ kindsOf S := hp.mem_iff
    show _ = K8.cnt (S.flatMap fun s => s) z
    rw [← many_cnt]
    by_cases h : z ∈ kindsOf S
    · rw [if_pos (hm.mpr h)]
    · rw [if_neg (fun q => h (hm.mp q)), many_zero h]
theorem Fnd.nd {S M : List Sh} {l : Int} {rs : List (List Str)} (F : Fnd S M l rs) : ((flat M).map (·.1)).Nodup := F.keys.nodup_iff.mpr (kinds_nodup S)
theorem Fnd.stays {S M : List Sh} {l : Int} {rs : List (List Str)} (F : Fnd S M l rs) (k : Str) : stays M l k = decide (l < manyOf S k) := by
  unfold K8.stays
  rw [decide_eq_false (by have := spots_one F.nd k; omega), Bool.false_or, F.cnt, many_cnt]
  rfl
theorem Fnd.few {S M : List Sh} {l : Int} {rs : List (List Str)} {n : Nat} (F : Fnd S M l rs) (g : Gd S n) : Few M := by
  refine ⟨by rw [F.len]; have := g.len4; omega, ?_⟩
  have h1 := F.keys.length_eq
  rw [List.length_map] at h1
  have h2 := g.kinds
  show (flat M).length ≤ _
  omega
theorem Fnd.ok {S M : List Sh} {l : Int} {rs : List (List Str)} {n : Nat} (F : Fnd S M l rs) (g : Gd S n) : OkS M := fun s hs p hp => by
  have h1 : p.1 ∈ kindsOf S := F.keys.mem_iff.mp (List.mem_map.mpr ⟨p, List.mem_flatMap.mpr ⟨s, hs, hp⟩, rfl⟩)
  obtain ⟨s', hs', hm⟩ := mem_kinds.mp h1
  obtain ⟨q, hq, e⟩ := List.mem_map.mp hm
  rw [← e]
  exact g.ok s' hs' q hq
theorem addLight_at {light : List Str} {rs : List (List Str)} {i : Nat} {q : List Str} (h : (addLight light rs)[i]? = some q) : ∃ r lt, rs[i]? = some r ∧ q = r ++ lt ∧ ∀ k ∈ lt, k ∈ light := by
  cases rs with
  | nil => cases h
  | cons r rs =>
    cases i with
    | zero => exact ⟨r, light, rfl, (Option.some.inj h).symm, fun k h => h⟩
    | succ i => exact ⟨q, [], h, (List.append_nil q).symm, fun k h => (nomatch h)⟩
theorem wish_eq {S : List Sh} {l : Int} {rs : List (List Str)} (F : Fnd S (metSt S (addLight (lightOf S l) rs)) l rs) (p : rs.flatten.Perm (heavyOf S l)) {i : Nat} {m : Sh} (h : (metSt S (addLight (lightOf S l) rs))[i]? = some m) :
    ∃ r, rs[i]? = some r ∧ wishOf (metSt S (addLight (lightOf S l) rs)) l m = r := by
  have h' : ((addLight (lightOf S l) rs)[i]?).map (fun r => r.map fun k => (k, manyOf S k)) = some m := by
    rw [← List.getElem?_map]; exact h
  cases e : (addLight (lightOf S l) rs)[i]? with
  | none => rw [e] at h'; cases h'
  | some q =>
    rw [e] at h'
    obtain ⟨r, lt, h1, rfl, h2⟩ := addLight_at e
    have hm : m = (r ++ lt).map fun k => (k, manyOf S k) := (Option.some.inj h').symm
    refine ⟨r, h1, ?_⟩
    have hr : ∀ k ∈ r, l < manyOf S k := fun k hk => (mem_heavy.mp (p.mem_iff.mp (List.mem_flatten.mpr ⟨r, List.mem_of_getElem? h1, hk⟩))).2
    have hl : ∀ k ∈ lt, manyOf S k ≤ l := fun k hk => (mem_light.mp (h2 k hk)).2
    have ht : tailN (metSt S (addLight (lightOf S l) rs)) l m = lt.length := by
      unfold tailN
      rw [hm, List.map_append, List.reverse_append, takeWhile_two]
      · rw [List.length_reverse, List.length_map]
      · intro x hx
        obtain ⟨k, hk, rfl⟩ := List.mem_map.mp (List.mem_reverse.mp hx)
        rw [F.stays, decide_eq_false (by have := hl k hk; show ¬ l < manyOf S k; omega)]
        rfl
      · intro x hx
        obtain ⟨k, hk, rfl⟩ := List.mem_map.mp (List.mem_reverse.mp hx)
        rw [F.stays, decide_eq_true (show l < manyOf S k from hr k hk)]
        rfl
    unfold wishOf
    rw [ht, hm, List.map_map, List.length_map, List.length_append]
    have : ((·.1) ∘ fun k => (k, manyOf S k)) = (id : Str → Str) := rfl
    rw [this, List.map_id, Nat.add_sub_cancel, List.take_left']
    rfl
theorem comes_both {S T : List Sh} {l : Int} {rs : List (List Str)} (F : Fnd S (metSt S (addLight (lightOf S l) rs)) l rs) (a : KM.All2 (wordsOf S T) rs) (p : rs.flatten.Perm (heavyOf S l)) (hl : T.length = S.length) :
    ComesOk S (metSt S (addLight (lightOf S l) rs)) l ∧ ComesOk T (metSt S (addLight (lightOf S l) rs)) l := by
  have key : ∀ (i : Nat) (s t m : Sh), S[i]? = some s → T[i]? = some t → (metSt S (addLight (lightOf S l) rs))[i]? = some m → (wishOf (metSt S (addLight (lightOf S l) rs)) l m).Sublist (s.map (·.1)) ∧ (wishOf (metSt S (addLight (lightOf S l) rs)) l m).Sublist (t.map (·.1)) := fun i s t m hs ht hm => by
    obtain ⟨r, h1, h2⟩ := wish_eq F p hm
    have hw : (wordsOf S T)[i]? = some (s.map (·.1), t.map (·.1)) := by
      unfold wordsOf
      rw [List.getElem?_map, (show (S.zip T)[i]? = some (s, t) from List.getElem?_zip_eq_some.mpr ⟨hs, ht⟩)]
      rfl
    rw [h2]
    exact a.at i _ r hw h1
  refine ⟨fun i s m hs hm => ?_, fun i t m ht hm => ?_⟩
  · have hi : i < T.length := by rw [hl]; exact (List.getElem?_eq_some_iff.mp hs).1
    exact (key i s T[i] m hs (List.getElem?_eq_getElem hi) hm).1
  · have hi : i < S.length := by rw [← hl]; exact (List.getElem?_eq_some_iff.mp ht).1
    exact (key i S[i] t m (List.getElem?_eq_getElem hi) ht hm).2
/-- the sums are the same dict -/
theorem sums_same {S M : List Sh} {l : Int} {rs : List (List Str)} (F : Fnd S M l rs) : (kvL (sumsP (flat M))).length = (kvL (sumsP (flat S))).length ∧ ∀ p ∈ kvL (sumsP (flat M)), L2.valV (kvL (sumsP (flat S))) p.1 = some p.2 ∧ ∃ n : Int, p.2 = L2.V.int n := by
  obtain ⟨a1, a2, a3⟩ := sumsP_ok (flat M)
  obtain ⟨b1, b2, b3⟩ := sumsP_ok (flat S)
  have hk : ∀ k, k ∈ (sumsP (flat M)).map (·.1) ↔ k ∈ (sumsP (flat S)).map (·.1) := fun k => by
    rw [a2, b2, F.keys.mem_iff, mem_flat]
  have hp := (List.perm_ext_iff_of_nodup a1 b1).mpr hk
  refine ⟨?_, fun p hp' => ?_⟩
  · unfold kvL
    rw [List.length_map, List.length_map]
    have := hp.length_eq
    rwa [List.length_map, List.length_map] at this
  · obtain ⟨q, hq, rfl⟩ := List.mem_map.mp hp'
    have hm : q.1 ∈ (sumsP (flat S)).map (·.1) := (hk q.1).mp (List.mem_map.mpr ⟨q, hq, rfl⟩)
    refine ⟨?_, q.2, rfl⟩
    show L2.valV (kvL (sumsP (flat S))) (Sum.inr q.1) = some (L2.V.int q.2)
    rw [valV_kvL b1, if_pos hm, b3, ← F.cnt, ← a3, cnt_nd a1 hq]
theorem Kept.symm {S T : List Sh} (k : Kept S T) : Kept T S := ⟨k.len.symm, fun z => (k.cnt z).symm⟩
theorem Gd.le {S : List Sh} {n m : Nat} (g : Gd S n) (h : n ≤ m) : Gd S m := ⟨g.len1, g.len4, g.pos, g.ok, Nat.le_trans g.rows h, g.cnt, g.kinds⟩
/-- one more of each row -/
def moreOne (S : List Sh) : List Sh := S.map fun s => s.map fun p => (p.1, p.2 + 1)
theorem cnt_more (k : Str) : ∀ s : Sh, cnt (s.map fun p => (p.1, p.2 + 1)) k ≤ cnt s k + s.length
  | [] => Int.le_refl _
  | p :: s => by
    have ih := cnt_more k s
    rw [List.map_cons, cnt_cons, cnt_cons, List.length_cons]
    have e : ((s.length + 1 : Nat) : Int) = (s.length : Int) + 1 := by omega
    rw [e]
    simp only
    split <;> omega
theorem flat_more : ∀ S : List Sh, flat (moreOne S) = (flat S).map fun p => (p.1, p.2 + 1)
  | [] => rfl
  | s :: S => by
    show (s.map fun p => (p.1, p.2 + 1)) ++ flat (moreOne S) = _
    rw [flat_more S, flat_cons, List.map_append]
theorem kinds_more (S : List Sh) : kindsOf (moreOne S) = kindsOf S := by
  unfold kindsOf moreOne
  rw [List.flatMap_map]
  simp only [List.map_map]
  rfl
theorem gd_more {S : List Sh} (g : Gd S 24) (hc : ∀ k, cnt (flat S) k ≤ 500) : Gd (moreOne S) 24 := by
  have hl : (moreOne S).length = S.length := List.length_map ..
  refine ⟨by rw [hl]; exact g.len1, by rw [hl]; exact g.len4, fun s hs p hp => ?_, fun s hs p hp => ?_, by rw [flat_more, List.length_map]; exact g.rows, fun k => ?_, by rw [kinds_more]; exact g.kinds⟩
  · obtain ⟨s', hs', rfl⟩ := List.mem_map.mp hs
    obtain ⟨q, hq, rfl⟩ := List.mem_map.mp hp
    have := g.pos s' hs' q hq
    show 0 < q.2 + 1
    omega
  · obtain ⟨s', hs', rfl⟩ := List.mem_map.mp hs
    obtain ⟨q, hq, rfl⟩ := List.mem_map.mp hp
    exact g.ok s' hs' q hq
  · rw [flat_more]
    have h1 := cnt_more k (flat S)
    have h2 := hc k
    have h3 := g.rows
    exact Int.le_trans h1 (by omega)
end K8
end

section
set_option Elab.async false
set_option linter.all false
set_option maxRecDepth 100000
set_option maxHeartbeats 4000000
/-! K81: _law_box, _law_right. -/
namespace K8
open PySem PySem.Spec PyProof.Rows L2
abbrev nRight : List Str := ["_law_box_here", "_law_here", "_law_plank", "_law_sort", "_law_size", "_law_loan", "_law_others", "_law_there", "_law_due", "_law_told", "_law_found"]
theorem sc_Right : FnScope nRight ["_law_box_here"] (defScope (K81.top 39)) := ⟨rfl, rfl, rfl, by decide +kernel, rfl, by decide +kernel, by decide +kernel⟩
def spRight : Sp := fun vs H Q _ => ∃ (bx : Addr) (c : Nat), vs = [.ref bx] ∧ Bx bx (c + 300) H ∧ ∀ H', Ba bx 300 H H' → Q (.bl true) H'
section
variable {P : Program} {w : World} {K : PySem.W.Frag} {mg : Str → Option Value} {base : Heap}
theorem cal_Right (B : Bi mg) (D : DfE K mg "_law_right" 39) (CLTake : Cal P w K mg base "_law_take" 1 ["_law_box_here", "_law_bound"] spTake) (CLStand : Cal P w K mg base "_law_stand" 3 ["_law_box_here", "_law_planks", "_law_rows", "_law_sorts", "_law_most"] spStand)
    (CLLed : Cal P w K mg base "_law_led" 4 ["_law_box_here", "_law_here", "_law_loan", "_law_most"] spLed) (CLShared : Cal P w K mg base "_law_shared" 3 ["_law_box_here", "_law_here"] spShare) (CLCanMeet : Cal P w K mg base "_law_can_meet" 7 ["_law_here", "_law_there", "_law_loan"] spCan)
    (CMeets : Cal P w K mg base "meets" 5 ["one", "other", "lent"] spMeets) (CMeeting : Cal P w K mg base "meeting" 4 ["one", "other", "lent"] spMeeting) (CLSame : Cal P w K mg base "_law_same" 2 ["_law_found", "_law_due"] (spSame 2)) (CLComes : Cal P w K mg base "_law_comes" 3 ["_law_here", "_law_there", "_law_loan"] spComes) (CLSums : Cal P w K mg base "_law_sums" 1 ["_law_here"] spSums) :
    Cal P w K mg base "_law_right" 8 ["_law_box_here"] spRight := by
  obtain ⟨f, fd, D⟩ := D
  have nd := sc_Right.nd
  refine D.cal (D.F.ok sc_Right (fun vs H Q E h => ?_) fun cdv A outer s H vs Q E hr h => ⟨_, PSs.nox
    ((pss_cons (ps_set (i := 1) nd rfl (by first | exact Or.inl rfl | exact Or.inr rfl) (pe_callC CLStand (hr.mono (by decide)) (pa_cons (pv 0) (pa_cons pe_int (pa_cons pe_int (pa_cons pe_int (pa_cons pe_int pa_nil)))))))
      (pss_cons (ps_set (i := 1) nd rfl (by first | exact Or.inl rfl | exact Or.inr rfl) (pe_callTy call_tuple_of rfl B.tuple boot_tuple (pa_cons (pe_lc (wi := (iTup K _)) (g := (gName 2)) (tt := tYes) (te := (tCB (rTupOf K) (tCons (tLc (iTup K _) (gTup K 2 (gCons (gName 3) (gCons (gName 4) gNil))) tYes _ _) tNil))) rfl nd (pi_tup (pv 1)) (blkOk_by (own := [("_law_plank", 2)]) (by kernel_rfl)) (fun _ _ _ _ _ => (pg_name (i := 2) nd rfl (by first | exact Or.inl rfl | exact Or.inr rfl))) (fun _ _ _ _ _ => pts_nil) (fun _ _ _ _ _ => (pe_callTy call_tuple_of rfl B.tuple boot_tuple (pa_cons (pe_lc (wi := (iTup K _)) (g := (gTup K 2 (gCons (gName 3) (gCons (gName 4) gNil)))) (tt := tYes) (te := _) rfl nd (pi_tup (pv 2)) (blkOk_by (own := [("_law_sort", 3), ("_law_size", 4)]) (by kernel_rfl)) (fun _ _ _ _ _ => (pg_tup rfl (pgs_cons (pg_name (i := 3) nd rfl (by first | exact Or.inl rfl | exact Or.inr rfl)) (pgs_cons (pg_name (i := 4) nd rfl (by first | exact Or.inl rfl | exact Or.inr rfl)) pgs_nil)))) (fun _ _ _ _ _ => pts_nil) (fun _ _ _ _ _ => (pe_tup (pa_cons (pv 3) (pa_cons (pe_op op_add (pv 4) pe_int) pa_nil))))) pa_nil)))) pa_nil)))
      (pss_cons (ps_set (i := 5) nd rfl (by first | exact Or.inl rfl | exact Or.inr rfl) (pe_ix ix_list (pe_lst (pa_cons pe_int (pa_cons pe_int (pa_cons pe_int (pa_cons pe_int pa_nil))))) (pe_callC CLTake (hr.mono (by decide)) (pa_cons (pv 0) (pa_cons pe_int pa_nil))) (fun _ _ => rfl)))
      (pss_cons (ps_set (i := 6) nd rfl (by first | exact Or.inl rfl | exact Or.inr rfl) (pe_lst (pa_cons (pe_ix ix_tup (pe_callC CLLed (hr.mono (by decide)) (pa_cons (pv 0) (pa_cons (pv 1) (pa_cons (pv 5) (pa_cons pe_int pa_nil))))) pe_int (fun _ _ => rfl)) (pa_cons (pe_callC CLShared (hr.mono (by decide)) (pa_cons (pv 0) (pa_cons (pv 1) pa_nil))) (pa_cons (pe_callC CLShared (hr.mono (by decide)) (pa_cons (pv 0) (pa_cons (pv 1) pa_nil))) pa_nil)))))
      (pss_cons (ps_set (i := 6) nd rfl (by first | exact Or.inl rfl | exact Or.inr rfl) (pe_op op_cat (pv 6) (pe_lc (wi := (iList K (tSl (rSlL K) _ _ _))) (g := (gName 7)) (tt := tYes) (te := (tOp (rIxT K) _ _)) rfl nd (pi_list (pe_slice sl_list (pv 6) (po_some pe_int) po_none)) (blkOk_by (own := [("_law_there", 7)]) (by kernel_rfl)) (fun _ _ _ _ _ => (pg_name (i := 7) nd rfl (by first | exact Or.inl rfl | exact Or.inr rfl))) (fun _ _ _ _ _ => pts_nil) (fun _ _ _ _ _ => (pe_ix ix_tup (pe_callC CLLed (hr.mono (by decide)) (pa_cons (pv 0) (pa_cons (pv 7) (pa_cons (pv 5) (pa_cons pe_int pa_nil))))) pe_int (fun _ _ => rfl))))))
      (pss_cons (ps_for PassesOwn.never rfl (pi_list (pv 6)) (pg_name (i := 7) nd rfl (by first | exact Or.inl rfl | exact Or.inr rfl)) (pss_cons (ps_set (i := 8) nd rfl (by first | exact Or.inl rfl | exact Or.inr rfl) (pe_callC CLCanMeet (hr.mono (by decide)) (pa_cons (pv 1) (pa_cons (pv 7) (pa_cons (pv 5) pa_nil)))))
      (pss_cons (ps_set (i := 9) nd rfl (by first | exact Or.inl rfl | exact Or.inr rfl) (pe_lst (pa_cons (pe_callC CMeets (hr.mono (by decide)) (pa_cons (pv 1) (pa_cons (pv 7) (pa_cons (pv 5) pa_nil)))) (pa_cons (pe_callC CMeets (hr.mono (by decide)) (pa_cons (pv 7) (pa_cons (pv 1) (pa_cons (pv 5) pa_nil)))) pa_nil))))
      (pss_cons (ps_if (pt_not (pt_val (pe_callC CLSame (hr.mono (by decide)) (pa_cons (pv 9) (pa_cons (pe_lst (pa_cons (pv 8) (pa_cons (pv 8) pa_nil))) pa_nil))))) (pss_one (ps_ret pe_bl)) pss_nil)
      (pss_cons (ps_set (i := 10) nd rfl (by first | exact Or.inl rfl | exact Or.inr rfl) (pe_callC CMeeting (hr.mono (by decide)) (pa_cons (pv 1) (pa_cons (pv 7) (pa_cons (pv 5) pa_nil)))))
      (pss_cons (ps_if (pt_cmpR op_eq (pe_cmpR op_isN (pv 10) pe_non (nomark _)) (pv 8) (nomark _)) (pss_one (ps_ret pe_bl)) pss_nil)
      (pss_one (ps_if (pt_cmpR op_notN (pv 10) pe_non (nomark _)) (pss_cons (ps_set (i := 9) nd rfl (by first | exact Or.inl rfl | exact Or.inr rfl) (pe_lst (pa_cons (pe_callC CLComes (hr.mono (by decide)) (pa_cons (pv 1) (pa_cons (pv 10) (pa_cons (pv 5) pa_nil)))) (pa_cons (pe_callC CLComes (hr.mono (by decide)) (pa_cons (pv 7) (pa_cons (pv 10) (pa_cons (pv 5) pa_nil)))) pa_nil))))
      (pss_one (ps_if (PW.pt (pw_or (pt_cmpR (op_neD hr.units) (pv 9) (pe_lst (pa_cons pe_bl (pa_cons pe_bl pa_nil))) (nomark _)) (pw_or1 (pt_cmpR (op_ne_dictA hr.units0) (pe_callC CLSums (hr.mono (by decide)) (pa_cons (pv 10) pa_nil)) (pe_callC CLSums (hr.mono (by decide)) (pa_cons (pv 1) pa_nil)) (nomark _))))) (pss_one (ps_ret pe_bl)) pss_nil))) pss_nil))))))))
      (pss_one (ps_ret pe_bl))))))))), ?_⟩)
    (fun kV doc pm an cdv ct us hl => match us, hl with | [_], _ => rfl)
  · obtain ⟨bx, c, rfl, _⟩ := h; rfl
  · obtain ⟨bx, c, rfl, hb, hq⟩ := h
    have hbH : Bx bx 0 H := hb.le (Nat.zero_le _)
    refine ⟨.ref bx, rfl, bx, c + 200, rfl, hb.le (by omega), fun v0 H1 S0 b1 t0 g0 c0 => ?_⟩
    have hb1 : Bx bx (c + 200) H1 := b1.box _ (hb.le (by omega))
    refine q_gn ?_
    have fw0 := g0.few (by omega)
    refine q_asgD (G := fun H' => Same H1 H') (d := stD (moreOne S0)) (EvD.to (ed_tupL (el_lcM (xs := S0) (mk := shD) (fun s => shD (s.map fun p => (p.1, p.2 + 1))) (ei_tup (ed_var rfl fun H' s => t0.up s)).ei (by have := g0.len4; omega) ?_)) (by unfold moreOne stD; rw [List.map_map]; rfl)) (Same.refl H1) fun v H2 s2 tv => ?_
    · intro H2 s2 sh hsh x Hx sx tx
      have hsl := few_sh fw0 sh hsh
      refine eg_name ⟨Same.refl _, rfl, et_yes, EvD.to (ed_tupL (el_lcM (xs := sh) (mk := bkD) (fun p => bkD (p.1, p.2 + 1)) (ei_tup (ed_var (d := shD sh) rfl fun H' s => tx.up s)).ei (by omega) ?_)) (by unfold shD; rw [List.map_map]; rfl)⟩
      intro H3 s3 p hp y Hy sy ty
      exact eg_pair ty fun uk un tk tn => ⟨Same.refl _, rfl, et_yes, ed_tup (ea_cons (ed_var rfl fun H' s => tk.up s) (ea_cons (ed_op (ed_var rfl fun H' s => tn.up s) ed_int rd_I0) ea_nil)) (show 2 ≤ 100000 by decide)⟩
    have gS := gd_more g0 c0
    generalize moreOne S0 = S at tv gS
    have hb2 := hb1.up s2
    have b02 := b1.same s2
    refine ⟨(show 4 ≤ sizeLine by decide), fun lp hlp => ?_⟩
    have s3 := same_new (o := .lst [.int 1, .int 1, .int 3, .int 6]) hlp
    have elp : (upd H2 lp (.lst [.int 1, .int 1, .int 3, .int 6])) lp = some (.lst [.int 1, .int 1, .int 3, .int 6]) := by simp [upd]
    generalize upd H2 lp (.lst [.int 1, .int 1, .int 3, .int 6]) = H3 at s3 elp ⊢
    have hb3 := hb2.up s3
    refine ⟨.ref bx, rfl, bx, 4, c + 199, rfl, hb3, by decide, by decide, fun r H4 q1 q2 b4 => ?_⟩
    obtain ⟨r, rfl⟩ := Int.eq_ofNat_of_zero_le q1
    have hr4 : r < 4 := by omega
    obtain ⟨loan, hloan⟩ : ∃ loan : Int, atI [V.int 1, .int 1, .int 3, .int 6] ((r : Nat) : Int) = some (.int loan) := by
      match r, hr4 with
      | 0, _ => exact ⟨1, atI_nat rfl⟩
      | 1, _ => exact ⟨1, atI_nat rfl⟩
      | 2, _ => exact ⟨3, atI_nat rfl⟩
      | 3, _ => exact ⟨6, atI_nat rfl⟩
    have elp4 := b4.off _ _ (hb2.ne_free hlp) elp
    refine ⟨lp, _, _, _, rfl, rfl, .inl (.inl elp4), hloan, ?_⟩
    refine q_gn ?_
    have hb4 : Bx bx (c + 199) H4 := b4.box _ hb3
    have tv4 := (tv.up s3).mono (b4.ts hb3)
    have b04 := (b02.same s3).trans b4
    -- three others
    refine ⟨.ref bx, rfl, v, rfl, .int loan, rfl, bx, v, S, loan, 24, c + 179, rfl, tv4, gS, by decide, hb4, fun t u x H5 T1 b5 rt tu g1 k1 => ?_⟩
    refine ⟨t, [u, x], 0, u, rfl, rfl, .inl rt, atI_nat (j := 0) rfl, ?_⟩
    have hb5 : Bx bx (c + 179) H5 := b5.box _ hb4
    have tv5 := tv4.mono (b5.ts hb4)
    refine ⟨.ref bx, rfl, v, rfl, bx, v, S, 24, c + 119, rfl, tv5, gS, by decide, hb5, fun u2 H6 T2 b6 tu2 g2 k2 => ?_⟩
    have hb6 : Bx bx (c + 119) H6 := b6.box _ hb5
    have tv6 := tv5.mono (b6.ts hb5)
    refine ⟨.ref bx, rfl, v, rfl, bx, v, S, 24, c + 59, rfl, tv6, gS, by decide, hb6, fun u3 H7 T3 b7 tu3 g3 k3 => ?_⟩
    have hb7 : Bx bx (c + 59) H7 := b7.box _ hb6
    have tv7 := tv6.mono (b7.ts hb6)
    have tu7 := (tu.mono (b6.ts hb5)).mono (b7.ts hb6)
    have tu27 := tu2.mono (b7.ts hb6)
    have b07 := ((b04.trans b5).trans b6).trans b7
    refine ⟨(show 3 ≤ sizeLine by decide), fun l hl => ?_⟩
    refine q_gn ?_
    have s8 := same_new (o := .lst [u, u2, u3]) hl
    have el : (upd H7 l (.lst [u, u2, u3])) l = some (.lst [u, u2, u3]) := by simp [upd]
    generalize upd H7 l (.lst [u, u2, u3]) = H8 at s8 el ⊢
    have hb8 := hb7.up s8
    have hlb := hb7.ne_free hl
    have tl8 : TpA H8 [u, u2, u3] ([T1, T2, T3].map stD) := .cons (tu7.up s8) (.cons (tu27.up s8) (.cons (tu3.up s8) .nil))
    have tv8 := tv7.up s8
    have b08 := b07.same s8
    refine q_seqAsg ?_
    refine ⟨.ref l, rfl, ?_⟩
    have keyS : EvL (fun H' => Same H8 H') (tSl (rSlL K) (tVar 6) (tPart (tC (.int 1))) tNoPart) [some (.ref bx), some v, none, none, none, some (.int loan), some (.ref l), none, none, none, none] ([T2, T3].map stD) := EvL.to (el_slL (ds := [T1, T2, T3].map stD) (es_var rfl fun H' s => ⟨_, s _ _ el, tl8.up s⟩) (eo_some ed_int) eo_none) (by rw [show (1 : Int) = ((1 : Nat) : Int) from rfl, cut_from]; rfl)
    refine keyS H8 (Same.refl _) _ fun p us H9 hp s9 ep tp => ⟨p, rfl, ⟨us, .inl (.inl ep)⟩, fun D hD => ?_⟩
    have el9 := s9 _ _ el
    have hb9 := hb8.up s9
    have hDb := hb9.ne_free hD
    have hpb := hb8.ne_free hp
    have hDl : l ≠ D := fun z => by rw [← z, el9] at hD; cases hD
    have hDp : p ≠ D := fun z => by rw [← z, ep] at hD; cases hD
    have b09 := b08.same s9
    have hDH : H D = none := b09.free hD hDb
    have hlen2 : us.length = 2 := tp.length
    have tv9 := tv8.up s9
    refine lc_list (xs := us) (fun i H' => ∃ (Rs : List (List Sh)) (acc : List V), Rs.length = i ∧ (∀ T ∈ Rs, Gd T 28 ∧ Kept S T) ∧ H' D = some (.lst acc) ∧ TpA H' acc (Rs.map stD) ∧ Ba bx (241 + 20 * i) H H' ∧ H' p = some (.lst us) ∧ H' l = some (.lst [u, u2, u3]) ∧ Ts H9 H') ?_ ?_ ?_ ?_
    · have sn := same_new (o := .lst []) hD
      exact ⟨[], [], rfl, fun T h => (nomatch h), by simp [upd], .nil, (b09.mut hDH hDb).le (by omega), sn _ _ ep, sn _ _ el9, Ts.of sn⟩
    · rintro i H' _ ⟨Rs, acc, _, _, _, _, _, e, _⟩
      exact .inl (.inl e)
    · rintro i x H' hx ⟨Rs, acc, hRl, hR, eD, tD, bH, e, el', ts⟩
      have hi : i < 2 := by rw [← hlen2]; exact (List.getElem?_eq_some_iff.mp hx).1
      obtain ⟨dd, hdd, tx⟩ := (tp.mono ts).getV hx
      obtain ⟨T, hT, hTm, rfl⟩ := at_map hdd
      have hTg : Gd T 20 ∧ Kept S T := by
        rcases List.mem_cons.mp hTm with rfl | h
        · exact ⟨g2, k2⟩
        · rw [List.mem_singleton.mp h]; exact ⟨g3, k3⟩
      have hbH' : Bx bx (c + 19) H' := bH.box _ (hb.le (by omega))
      refine ⟨rfl, ?_⟩
      refine yes_go ?_
      refine ⟨.ref bx, rfl, x, rfl, .int loan, rfl, bx, x, T, loan, 20, c - 1, rfl, tx, hTg.1, by decide, ?_, fun t z x2 H5 T5 b5 rt tz g5 k5 => ?_⟩
      · exact bH.box _ (hb.le (by omega))
      have ts5 := b5.ts hbH'
      refine ⟨t, [z, x2], 0, z, rfl, rfl, .inl rt, atI_nat (j := 0) rfl, ?_⟩
      have eD5 := b5.off _ _ hDb eD
      refine ⟨acc, eD5, by rw [tD.length, List.length_map, sizeLine_eq]; omega, Rs ++ [T5], acc ++ [z], by rw [List.length_append, hRl]; rfl, fun T' hT' => ?_, by simp [upd], ?_, ?_, ?_, ?_, ?_⟩
      · rcases List.mem_append.mp hT' with h | h
        · exact hR T' h
        · rw [List.mem_singleton.mp h]
          exact ⟨g5.le (by omega), hTg.2.trans k5⟩
      · rw [List.map_append]
        exact ((tD.mono ts5).snoc tz).mono (Ts.lst eD5)
      · exact ((bH.trans b5).mut hDH hDb).le (by omega)
      · rw [upd_ne hDp]; exact b5.off _ _ hpb e
      · rw [upd_ne hDl]; exact b5.off _ _ hlb el'
      · exact (ts.trans ts5).trans (Ts.lst eD5)
    rintro H10 ⟨Rs, acc, hRl, hR, eD, tD, bH, _, el10, ts⟩
    rw [hlen2] at hRl bH
    refine ⟨l, D, [u, u2, u3], acc, rfl, rfl, el10, eD, by rw [tD.length, List.length_map, hRl]; exact (show 5 ≤ sizeLine by decide), fun q hq' => ?_⟩
    refine q_gu ?_
    have sn := same_new (o := .lst ([u, u2, u3] ++ acc)) hq'
    have eq10 : (upd H10 q (.lst ([u, u2, u3] ++ acc))) q = some (.lst ([u, u2, u3] ++ acc)) := by simp [upd]
    have tq : TpA (upd H10 q (.lst ([u, u2, u3] ++ acc))) ([u, u2, u3] ++ acc) (([T1, T2, T3] ++ Rs).map stD) := by
      rw [List.map_append]
      exact ((((tl8.up s9).mono ts).app tD).up sn)
    have hAll : ∀ T ∈ [T1, T2, T3] ++ Rs, Gd T 28 ∧ Kept S T := fun T hT => by
      rcases List.mem_append.mp hT with h | h
      · rcases List.mem_cons.mp h with rfl | h
        · exact ⟨g1.le (by omega), k1⟩
        · rcases List.mem_cons.mp h with rfl | h
          · exact ⟨g2.le (by omega), k2⟩
          · rw [List.mem_singleton.mp h]; exact ⟨g3.le (by omega), k3⟩
      · exact hR T h
    generalize [T1, T2, T3] ++ Rs = Us at tq hAll
    generalize [u, u2, u3] ++ acc = qs at tq eq10 sn ⊢
    have tv11 := (tv9.mono ts).up sn
    have b011 : Ba bx 300 H _ := (bH.same sn).le (by omega)
    generalize upd H10 q (.lst qs) = H11 at tq eq10 sn tv11 b011 ⊢
    clear tD eD el10 bH hRl hR ts
    have gok := gS.ok
    refine q_forL (G := fun H' => Same H11 H') (a := q) (us := qs) (xs := Us) (mk := stD) (er_var rfl fun _ _ => rfl) (Same.refl H11) eq10 tq (fun i τ H' => ∃ (o7 o8 o9 o10 : Option V), τ = [some (.ref bx), some v, none, none, none, some (.int loan), some (.ref q), o7, o8, o9, o10] ∧ Same H11 H') ?_ ?_ ?_ ?_
    · exact fun H2 s2 => ⟨none, none, none, none, rfl, s2⟩
    · rintro i τ H' ⟨_, _, _, _, _, s⟩
      exact ⟨s _ _ eq10, Ts.of s⟩
    · rintro i T τ H' x hx hxm ⟨o7, o8, o9, o10, rfl, sH⟩ tx
      obtain ⟨gT, kT⟩ := hAll T hxm
      refine eg_name ?_
      have tvH := tv11.up sH
      have al := alk_of gS gT kT (by decide) (by decide)
      have al2 := alk_of gT gS kT.symm (by decide) (by decide)
      -- the due answer
      refine ⟨v, rfl, x, rfl, .int loan, rfl, v, x, S, T, loan, rfl, tvH, tx, al, gok, gS.len4, fun b H1 s1 hb' => ?_⟩
      refine q_gu ?_
      -- the told ones
      refine ⟨v, rfl, x, rfl, .int loan, rfl, v, x, S, T, loan, rfl, tvH.up s1, tx.up s1, al, fun b1 H2 s2 h1 => ?_⟩
      have s12 := s1.trans s2
      refine ⟨x, rfl, v, rfl, .int loan, rfl, x, v, T, S, loan, rfl, tx.up s12, tvH.up s12, al2, fun b2 H3 s3 h2 => ?_⟩
      have e1 : b1 = b := Bool.eq_iff_iff.mpr (h1.trans hb'.symm)
      have e2 : b2 = b := Bool.eq_iff_iff.mpr ((h2.trans (meet_swap gS gT kT loan)).trans hb'.symm)
      subst e1
      subst e2
      refine ⟨(show 2 ≤ sizeLine by decide), fun l1 hl1 => ?_⟩
      refine q_gn ?_
      have s4 := same_new (o := .lst [.bl b2, .bl b2]) hl1
      have el1 : (upd H3 l1 (.lst [.bl b2, .bl b2])) l1 = some (.lst [.bl b2, .bl b2]) := by simp [upd]
      generalize upd H3 l1 (.lst [.bl b2, .bl b2]) = H4 at s4 el1 ⊢
      have s14 := (s12.trans s3).trans s4
      refine ⟨.ref l1, rfl, .bl b2, rfl, .bl b2, rfl, (show 2 ≤ sizeLine by decide), fun l2 hl2 => ?_⟩
      have s5 := same_new (o := .lst [.bl b2, .bl b2]) hl2
      have el2 : (upd H4 l2 (.lst [.bl b2, .bl b2])) l2 = some (.lst [.bl b2, .bl b2]) := by simp [upd]
      generalize upd H4 l2 (.lst [.bl b2, .bl b2]) = H5 at s5 el2 ⊢
      refine .inr ⟨l1, l2, [b2, b2], [b2, b2], rfl, by decide, s5 _ _ el1, el2, (show 2 ≤ 1000 by decide), (show 2 ≤ 1000 by decide), fun H6 s6 => ⟨_, rfl, ?_⟩⟩
      rw [decide_eq_true (show [b2, b2] = [b2, b2] from rfl)]
      refine go_f ?_
      have s16 := (s14.trans s5).trans s6
      have tv6 := tvH.up s16
      have tx6 := tx.up s16
      refine q_nx ?_
      -- the meeting
      refine ⟨v, rfl, x, rfl, .int loan, rfl, v, x, S, T, loan, rfl, tv6, tx6, al, fun y H7 s7 hy => ?_⟩
      refine q_gn ?_
      have s17 := s16.trans s7
      have sH7 := sH.trans s17
      rcases hy with ⟨rfl, hno⟩ | ⟨rs, ty, ha, hp⟩
      · have hbf : b2 = false := by
          cases b2 with
          | true => exact absurd (hb'.mp rfl) hno
          | false => rfl
        subst hbf
        refine ⟨.non, rfl, rfl, .bl false, rfl, rfl, false, rfl, go_f ?_⟩
        refine q_nx ?_
        refine ⟨.non, rfl, rfl, false, rfl, go_f ?_⟩
        exact ⟨_, _, _, _, rfl, sH7⟩
      · have hbt : b2 = true := hb'.mpr ⟨rs, ha, hp⟩
        subst hbt
        obtain ⟨ya, ys, rfl, _⟩ := ty.tup_inv
        have F := fnd_of al ha hp
        have fM := F.few gS
        have okM := F.ok gS
        obtain ⟨cS, cT⟩ := comes_both F ha hp kT.len
        refine ⟨.ref ya, rfl, rfl, .bl true, rfl, rfl, false, rfl, go_f ?_⟩
        refine q_nx ?_
        refine ⟨.ref ya, rfl, rfl, true, rfl, go_t ?_⟩
        have tv7 := tv6.up s7
        have tx7 := tx6.up s7
        generalize metSt S (addLight (lightOf S loan) rs) = M at F ty fM okM cS cT
        refine ⟨v, rfl, .ref ya, rfl, .int loan, rfl, v, .ref ya, S, M, loan, rfl, tv7, ty, F.len, al.fS, fM, gok, okM, fun c1 H8 s8 hc1 => ?_⟩
        refine ⟨x, rfl, .ref ya, rfl, .int loan, rfl, x, .ref ya, T, M, loan, rfl, tx7.up s8, ty.up s8, by rw [F.len, kT.len], al.fT, fM, gT.ok, okM, fun c2 H9 s9 hc2 => ?_⟩
        have ec1 := hc1 cS
        have ec2 := hc2 cT
        subst ec1
        subst ec2
        refine ⟨(show 2 ≤ sizeLine by decide), fun l3 hl3 => ?_⟩
        refine q_gn ?_
        have s10 := same_new (o := .lst [.bl true, .bl true]) hl3
        have el3 : (upd H9 l3 (.lst [.bl true, .bl true])) l3 = some (.lst [.bl true, .bl true]) := by simp [upd]
        generalize upd H9 l3 (.lst [.bl true, .bl true]) = H10 at s10 el3 ⊢
        refine ⟨.ref l3, rfl, (show 2 ≤ sizeLine by decide), fun l4 hl4 => ?_⟩
        have s11 := same_new (o := .lst [.bl true, .bl true]) hl4
        have el4 : (upd H10 l4 (.lst [.bl true, .bl true])) l4 = some (.lst [.bl true, .bl true]) := by simp [upd]
        generalize upd H10 l4 (.lst [.bl true, .bl true]) = H11' at s11 el4 ⊢
        refine ⟨.list [.bool true, .bool true], .list [.bool true, .bool true], .lst (.inl (.inl (s11 _ _ el3))) (.cons (.bl true) (.cons (.bl true) .nil)), .lst (.inl (.inl el4)) (.cons (.bl true) (.cons (.bl true) .nil)), rfl, rfl, false, rfl, go_f ?_⟩
        have s711 := ((s8.trans s9).trans s10).trans s11
        have keyA : EvR (fun H' => Same H11' H') (tCall spSums [] E0 (tCons (tVar 10) tNil)) [some (.ref bx), some v, none, none, none, some (.int loan), some (.ref q), some x, some (.bl true), some (.ref l3), some (.ref ya)] fun z H => ∃ d, z = .ref d ∧ H d = some (.dK (kvL (sumsP (flat M)))) := er_sums (S := M) (ed_var rfl fun H' s => (ty.up s711).up s) fM
        refine keyA H11' (Same.refl _) _ fun z1 H12 s12' ⟨d1, ez1, ed1⟩ => ?_
        subst ez1
        have keyB : EvR (fun H' => Same H12 H') (tCall spSums [] E0 (tCons (tVar 1) tNil)) [some (.ref bx), some v, none, none, none, some (.int loan), some (.ref q), some x, some (.bl true), some (.ref l3), some (.ref ya)] fun z H => ∃ d, z = .ref d ∧ H d = some (.dK (kvL (sumsP (flat S)))) := er_sums (S := S) (ed_var rfl fun H' s => ((tv7.up s711).up s12').up s) al.fS
        refine keyB H12 (Same.refl _) _ fun z2 H13 s13 ⟨d2, ez2, ed2⟩ => ?_
        subst ez2
        obtain ⟨f1, f2⟩ := sums_same F
        refine ⟨d1, d2, _, _, rfl, rfl, s13 _ _ ed1, ed2, f1, fun p hp' => ?_, false, rfl, go_f ?_⟩
        · obtain ⟨h1, n, h2⟩ := f2 p hp'
          exact ⟨h1, by rw [h2]; rfl⟩
        · exact ⟨_, _, _, _, rfl, ((sH7.trans s711).trans s12').trans s13⟩
    · rintro τ H' ⟨o7, o8, o9, o10, rfl, sH⟩
      exact hq H' (b011.same sH)
end
end K8
end

section
set_option Elab.async false
set_option linter.all false
set_option maxRecDepth 100000
set_option maxHeartbeats 4000000
/-! K81: _law_box, law. -/
namespace K8
open PySem PySem.Spec PyProof.Rows L2
section
variable {G : Hp → Prop} {σ : L2.St} {K : PySem.W.Frag} {te : TE} {H H1 H2 : Hp} {a p : Addr} {xs : List V} {m : Nat}
theorem sql_up (h : SqL K H a xs) (s : Same H H1) : SqL K H1 a xs := h.elim (fun r => .inl (rd_up s r)) .inr
theorem sql_step (h : SqL K H a xs) (s : Same H H1) (hp : H p = none) (b : Ba p m H1 H2) : SqL K H2 a xs := by
  rcases h with (e | ⟨o, e⟩) | h
  · exact .inl (.inl (b.off _ _ (ne_of_none e hp) (s _ _ e)))
  · exact .inl (.inr ⟨o, b.off _ _ (ne_of_none e hp) (s _ _ e)⟩)
  · exact .inr h
theorem ed_lenQ {i : Nat} (h : σ[i]? = some (some (.ref a))) (hs : ∀ H, G H → SqL K H a xs) : EvD G (tCB (rLenX K) (tCons (tVar i) tNil)) σ (.num (xs.length : Int)) := fun H1 g Q q =>
  ⟨.ref a, h, a, xs, rfl, .inl (hs H1 g), q _ H1 (Same.refl _) (.num _)⟩
theorem ed_absI {i : Int} (h : EvD G te σ (.num i)) : EvD G (tCB (fun xs H Q => ∃ i, xs = [V.int i] ∧ Q (V.int (if i < 0 then -i else i)) H) (tCons te tNil)) σ (.num (if i < 0 then -i else i)) := fun H1 g Q q =>
  h H1 g _ fun v H2 s t => by
    cases t
    exact ⟨i, rfl, q _ H2 s (.num _)⟩
end
theorem flag_b (b : Bool) : -(2 ^ 64) < (if b = true then (1 : Int) else 0) ∧ (if b = true then (1 : Int) else 0) < 2 ^ 64 := by cases b <;> decide
theorem flag_n (b : Bool) : 0 ≤ (if b = true then (1 : Int) else 0) := by cases b <;> decide
abbrev nBox : List Str := ["_law_script", "_law_k", "_law_cell"]
theorem sc_Box : FnScope nBox ["_law_script", "_law_k"] (defScope (K81.top 16)) := ⟨rfl, rfl, rfl, by decide +kernel, rfl, by decide +kernel, by decide +kernel⟩
def spBox (K : PySem.W.Frag) : Sp := fun vs H Q _ => ∃ (a : Addr) (ns : List Int) (k : Nat), vs = [.ref a, .int (k : Nat)] ∧ SqL K H a (ns.map V.int) ∧ k ≤ 3 ∧ ∀ p H', H p = none → Same H H' → Bx p 1000 H' → Q (.ref p) H'
abbrev nLaw : List Str := ["_law_script", "_law_k", "_law_box_here", "_law_turn"]
theorem sc_Law : FnScope nLaw ["_law_script"] (defScope (K81.top 40)) := ⟨rfl, rfl, rfl, by decide +kernel, rfl, by decide +kernel, by decide +kernel⟩
def spLaw (K : PySem.W.Frag) : Sp := fun vs H Q _ => ∃ (a : Addr) (ns : List Int), vs = [.ref a] ∧ SqL K H a (ns.map V.int) ∧ ns.length < 2 ^ 60 ∧ ∀ H', Q (.bl true) H'
section
variable {P : Program} {w : World} {K : PySem.W.Frag} {mg : Str → Option Value} {base : Heap}
theorem cal_Box (B : Bi mg) (D : DfE K mg "_law_box" 16) : Cal P w K mg base "_law_box" 1 ["_law_script", "_law_k"] (spBox K) := by
  obtain ⟨f, fd, D⟩ := D
  have nd := sc_Box.nd
  refine D.cal (D.F.ok sc_Box (fun vs H Q E h => ?_) fun cdv A outer s H vs Q E hr h => ⟨_, PSs.nox
    ((pss_cons (ps_set (i := 2) nd rfl (by first | exact Or.inl rfl | exact Or.inr rfl) pe_int)
      (pss_cons (ps_if (pt_cmpR op_lt (pv 1) (pe_callB call_len_seq rfl B.len PySem.boot_len (pa_cons (pv 0) pa_nil)) (nomark _)) (pss_one (ps_set (i := 2) nd rfl (by first | exact Or.inl rfl | exact Or.inr rfl) (pe_ix ix_list (pv 0) (pv 1) (fun _ _ => rfl)))) pss_nil)
      (pss_one (ps_ret (pe_lst (pa_cons (pe_op op_mul (pe_callB call_abs rfl B.abs boot_abs (pa_cons (pv 2) pa_nil)) (pe_callTy call_int1 rfl B.int boot_int (pa_cons (pe_cmpR op_ge (pe_callB call_abs rfl B.abs boot_abs (pa_cons (pv 2) pa_nil)) (pe_op op_pow pe_int pe_int) (nomark _)) pa_nil))) (pa_cons (pe_op op_add (pe_op op_add (pe_op op_mod (pv 2) pe_int) (pe_op op_mul pe_int (pv 1))) pe_int) (pa_cons pe_int pa_nil))))))))), ?_⟩)
    (fun kV doc pm an cdv ct us hl => match us, hl with | [_, _], _ => rfl)
  · obtain ⟨a, ns, k, rfl, _⟩ := h; rfl
  · obtain ⟨a, ns, k, rfl, hs, hk, hq⟩ := h
    have fin : ∀ (cell : Int) (H2 : Hp), Same H H2 → tRet (tLst (tCons (tOp (rI CMul fun i j => V.int (i * j)) (tCB (fun xs H Q => ∃ i, xs = [V.int i] ∧ Q (V.int (if i < 0 then -i else i)) H) (tCons (tVar 2) tNil)) (tCB (fun xs H Q => (∃ i, xs = [V.int i] ∧ Q (V.int i) H) ∨ ∃ k, xs = [V.bl k] ∧ Q (V.int (if k = true then 1 else 0)) H) (tCons (tOp (rI0 fun i j => V.bl (decide (j ≤ i))) (tCB (fun xs H Q => ∃ i, xs = [V.int i] ∧ Q (V.int (if i < 0 then -i else i)) H) (tCons (tVar 2) tNil)) (tOp (rI CPow fun i j => V.int (i ^ j.toNat)) (tC (V.int 10)) (tC (V.int 18)))) tNil)))
        (tCons (tOp (rI0 fun i j => V.int (i + j)) (tOp (rI0 fun i j => V.int (i + j)) (tOp (rI (fun x j => 0 < j) fun i j => V.int (i % j)) (tVar 2) (tC (V.int 2147483629))) (tOp (rI CMul fun i j => V.int (i * j)) (tC (V.int 7919)) (tVar 1))) (tC (V.int 11))) (tCons (tC (V.int 0)) tNil)))) { nx := fun _ H' => Q .non H', rt := Q } [some (.ref a), some (.int (k : Nat)), some (.int cell)] H2 := fun cell H2 s2 => by
      refine q_retL (G := fun H' => Same H2 H') (ds := [.num ((if cell < 0 then -cell else cell) * (if decide ((10 : Int) ^ (18 : Int).toNat ≤ (if cell < 0 then -cell else cell)) = true then 1 else 0)), .num (cell % 2147483629 + 7919 * (k : Nat) + 11), .num 0]) (el_lst (ea_cons (ed_op (ed_absI (ed_var rfl fun _ _ => .num cell)) (ed_intB (eb_op (ed_absI (ed_var rfl fun _ _ => .num cell)) (ed_op ed_int ed_int (rd_I ⟨by decide, by decide, by decide⟩)) rb_I0)) (rd_I (.inr ?_))) (ea_cons (ed_op (ed_op (ed_op (ed_var rfl fun _ _ => .num cell) ed_int (rd_I (show (0 : Int) < 2147483629 by decide))) (ed_op ed_int (ed_var rfl fun _ _ => .num _) (rd_I (.inl ⟨by decide, by decide⟩))) rd_I0) ed_int rd_I0) (ea_cons ed_int ea_nil))) (show 3 ≤ 100000 by decide)) (Same.refl H2) fun p vs H3 hp s3 ep tp => ?_
      · exact flag_b _
      · obtain ⟨v1, vs1, rfl, t1, tp⟩ := TpA.cons_inv tp
        obtain ⟨v2, vs2, rfl, t2, tp⟩ := TpA.cons_inv tp
        obtain ⟨v3, vs3, rfl, t3, tp⟩ := TpA.cons_inv tp
        cases tp
        cases t1
        cases t2
        cases t3
        have e1 := Int.emod_nonneg cell (show (2147483629 : Int) ≠ 0 by decide)
        have e2 := Int.emod_lt_of_pos cell (show (0 : Int) < 2147483629 by decide)
        refine hq p H3 (s2.free hp) (s2.trans s3) ⟨_, _, _, ep, ?_, by omega, by omega, by decide, by decide⟩
        refine Int.mul_nonneg ?_ ?_
        · split <;> omega
        · exact flag_n _
    refine q_asgD (G := fun H' => Same H H') ed_int (Same.refl H) fun v0 H1 s1 t0 => ?_
    cases t0
    refine q_if (G := fun H' => Same H1 H') (b := decide ((k : Int) < (ns.length : Int))) (et_cmp (ed_var rfl fun _ _ => .num _) (EvD.to (ed_lenQ rfl fun H' s => sql_up hs (s1.trans s)) (by rw [List.length_map])) rb_I0) (Same.refl H1) (fun hb H2 s2 => ?_) fun hb H2 s2 => ?_
    · have hk2 : k < ns.length := by have := of_decide_eq_true hb; omega
      refine ⟨.ref a, rfl, .int (k : Nat), rfl, a, _, _, .int ns[k], rfl, rfl, sql_up hs (s1.trans s2), atI_nat (by rw [List.getElem?_map, List.getElem?_eq_getElem hk2]; rfl), ?_⟩
      refine q_gn ?_
      exact fin ns[k] H2 (s1.trans s2)
    · exact fin 0 H2 (s1.trans s2)
theorem ok_Law {f : Addr} {fd : FuncData} (B : Bi mg) (D : Df K mg "law" 40 f fd) (CLBox : Cal P w K mg base "_law_box" 1 ["_law_script", "_law_k"] (spBox K)) (CLRight : Cal P w K mg base "_law_right" 8 ["_law_box_here"] spRight) : FnOk P w K mg base CX0 9 f fd ["_law_script"] (spLaw K) := by
  have nd := sc_Law.nd
  refine D.F.ok sc_Law (fun vs H Q E h => ?_) fun cdv A outer s H vs Q E hr h => ⟨_, PSs.nox
    ((pss_cons (ps_for PassesOwn.never rfl (pi_range1 rfl B.range (pa_cons (pe_op op_add pe_int (pe_callB (call_min2 rfl) rfl B.min boot_min (pa_cons pe_int (pa_cons (pe_callB call_len_seq rfl B.len PySem.boot_len (pa_cons (pv 0) pa_nil)) pa_nil)))) pa_nil)) (pg_name (i := 1) nd rfl (by first | exact Or.inl rfl | exact Or.inr rfl)) (pss_cons (ps_set (i := 2) nd rfl (by first | exact Or.inl rfl | exact Or.inr rfl) (pe_callC CLBox (hr.mono (by decide)) (pa_cons (pv 0) (pa_cons (pv 1) pa_nil))))
      (pss_one (ps_if (pt_not (pt_val (pe_callB (cr_all rfl) rfl B.all boot_all (pa_cons (pe_lc (wi := _) (g := (gName 3)) (tt := tYes) (te := _) rfl nd (pi_range1 rfl B.range (pa_cons pe_int pa_nil)) (blkOk_by (own := [("_law_turn", 3)]) (by kernel_rfl)) (fun _ _ _ _ _ => (pg_name (i := 3) nd rfl (by first | exact Or.inl rfl | exact Or.inr rfl))) (fun _ _ _ _ _ => pts_nil) (fun _ _ _ _ _ => (pe_callC CLRight (hr.mono (by decide)) (pa_cons (pv 2) pa_nil)))) pa_nil)))) (pss_one (ps_ret pe_bl)) pss_nil))))
      (pss_one (ps_ret pe_bl)))), ?_⟩
  · obtain ⟨a, ns, rfl, _⟩ := h; rfl
  · obtain ⟨a, ns, rfl, hs, hl, hq⟩ := h
    refine tFor_rng ?_
    refine ⟨.ref a, rfl, a, _, rfl, .inl hs, 2, _, rfl, 1, _, rfl, rfl, _, rfl, ?_, ?_, ?_⟩
    · rw [List.length_map]; split <;> omega
    · rw [List.length_map]; split <;> omega
    have hn : ((1 : Int) + if ((ns.map V.int).length : Int) < 2 then ((ns.map V.int).length : Int) else 2).toNat ≤ 3 := by split <;> omega
    refine fo_rng (fun i τ H' => ∃ o1 o2, τ = [some (.ref a), o1, o2, none] ∧ SqL K H' a (ns.map V.int)) ?_ ?_ ?_
    · exact ⟨none, none, rfl, hs⟩
    · rintro i τ H1 hi ⟨o1, o2, rfl, hs1⟩
      refine ⟨.ref a, rfl, .int (i : Nat), rfl, a, ns, i, rfl, hs1, by omega, fun p H2 hp s2 hb => ?_⟩
      refine q_gn ?_
      refine cb1 (tLc_rng ?_)
      refine ⟨1, rfl, by decide, by decide, ?_⟩
      refine lc_rngB (R := fun v _ => v = .bl true) (bx := p) (m := 300) (n := 1) (c := 700) (show (3 : Nat) ∈ [3] by decide) (fun v H H' h _ => h) (hb.le (by decide)) (by decide) ?_ ?_
      · intro j hj H3 c3 off hb3 Q3 hq3
        exact ⟨.ref p, rfl, p, c3, rfl, hb3, fun H4 b4 => hq3 _ H4 b4 rfl⟩
      · intro q acc H3 hq' b3 eq hal hR
        have hacc : acc = [true].map V.bl := by
          match acc, hal with
          | [v], _ => rw [hR v List.mem_cons_self]; rfl
        rw [hacc] at eq
        refine ⟨q, [true], rfl, .inl (.inl eq), true, rfl, go_f ?_⟩
        exact ⟨_, _, rfl, sql_step hs1 s2 hp b3⟩
    · rintro τ H' ⟨o1, o2, rfl, _⟩
      exact hq H'
end
end K8
end

section
set_option Elab.async false
set_option linter.all false
set_option maxRecDepth 100000
set_option maxHeartbeats 0
/-! K81: the law holds. -/
namespace K8
open PySem PySem.Spec PyProof.Rows L2
theorem dfe {K : PySem.W.Frag} {h : Heap} {mg : Str → Option Value} (X : K.In h) (G : h.Ns mainGlobals mg) (c : He.SaysD K81.fa K81.fn K) (i : Nat) {x : Str} {n : Nat} (h1 : K81.fn[i]? = some (K81.mkD x n)) (h2 : K81.fa[i]? = some (.glo x)) : DfE K mg x n := by
  obtain ⟨fd, F⟩ := c.def_ i (d := K81.mkD x n) h1
  exact ⟨_, fd, F, He.glo_ok X G (c.fact i (f := .glo x) h2)⟩
theorem bi {K : PySem.W.Frag} {h : Heap} {mg : Str → Option Value} (X : K.In h) (G : h.Ns mainGlobals mg) (c : He.SaysD K81.fa K81.fn K) : Bi mg :=
  ⟨He.free_ok X G (c.fact 34 (f := .free "len") rfl), He.free_ok X G (c.fact 35 (f := .free "tuple") rfl), He.free_ok X G (c.fact 36 (f := .free "sorted") rfl), He.free_ok X G (c.fact 37 (f := .free "sum") rfl), He.free_ok X G (c.fact 38 (f := .free "zip") rfl), He.free_ok X G (c.fact 39 (f := .free "min") rfl), He.free_ok X G (c.fact 40 (f := .free "range") rfl), He.free_ok X G (c.fact 41 (f := .free "abs") rfl), He.free_ok X G (c.fact 42 (f := .free "int") rfl), He.free_ok X G (c.fact 43 (f := .free "isinstance") rfl), He.free_ok X G (c.fact 44 (f := .free "list") rfl), He.free_ok X G (c.fact 45 (f := .free "bool") rfl), He.free_ok X G (c.fact 46 (f := .free "str") rfl), He.free_ok X G (c.fact 47 (f := .free "all") rfl), He.free_ok X G (c.fact 48 (f := .free "any") rfl), He.free_ok X G (c.fact 49 (f := .free "enumerate") rfl)⟩
theorem facts {P : Program} {w : World} {K : PySem.W.Frag} {h : Heap} {mg : Str → Option Value} {f : Addr} (X : K.In h) (G : h.Ns mainGlobals mg) (hfa : mg ("law" : Str) = some (.ref f)) (c : He.SaysD K81.fa K81.fn K) :
    ∃ fd : FuncData, (∀ (s : Shared) (v : Value), BindsTo s fd ⟨[v], []⟩ [("_law_script", v)]) ∧ ∀ base : Heap, K.In base → base.Ns mainGlobals mg → FnOk P w K mg base CX0 9 f fd ["_law_script"] (spLaw K) := by
  obtain ⟨fd, F⟩ := c.def_ 33 (d := K81.mkD "law" 40) rfl
  have e := hfa.symm.trans (He.glo_ok X G (c.fact 33 (f := .glo "law") rfl))
  cases e
  have b := FunD.bindsA (ps := ["_law_script"]) F fun _ _ _ _ _ _ us hl => match us, hl with | [_], _ => rfl
  refine ⟨fd, fun s v => b s [v] rfl, fun base _ _ => ?_⟩
  have B := bi X G c
  have cword_of := cal_WordOf (P := P) (w := w) (K := K) (mg := mg) (base := base) B (dfe X G c 0 (x := "word_of") (n := 4) rfl rfl) 
  have ckinds_in := cal_KindsIn (P := P) (w := w) (K := K) (mg := mg) (base := base) B (dfe X G c 1 (x := "kinds_in") (n := 5) rfl rfl) 
  have cmany_of := cal_ManyOf (P := P) (w := w) (K := K) (mg := mg) (base := base) B (dfe X G c 2 (x := "many_of") (n := 6) rfl rfl) 
  have clook_alike := cal_LookAlike (P := P) (w := w) (K := K) (mg := mg) (base := base) B (dfe X G c 3 (x := "look_alike") (n := 8) rfl rfl) ckinds_in cmany_of
  have cways_on := cal_WaysOn (P := P) (w := w) (K := K) (mg := mg) (base := base) B (dfe X G c 4 (x := "ways_on") (n := 10) rfl rfl) 
  have cends_of := cal_EndsOf (P := P) (w := w) (K := K) (mg := mg) (base := base) B (dfe X G c 5 (x := "ends_of") (n := 11) rfl rfl) cways_on
  have crows_met := cal_RowsMet (P := P) (w := w) (K := K) (mg := mg) (base := base) B (dfe X G c 6 (x := "rows_met") (n := 12) rfl rfl) cword_of cends_of
  have cmeeting := cal_Meeting (P := P) (w := w) (K := K) (mg := mg) (base := base) B (dfe X G c 7 (x := "meeting") (n := 13) rfl rfl) clook_alike ckinds_in cmany_of crows_met
  have cmeets := cal_Meets (P := P) (w := w) (K := K) (mg := mg) (base := base) B (dfe X G c 8 (x := "meets") (n := 14) rfl rfl) cmeeting
  have c_law_box := cal_Box (P := P) (w := w) (K := K) (mg := mg) (base := base) B (dfe X G c 9 (x := "_law_box") (n := 16) rfl rfl) 
  have c_law_take := cal_Take (P := P) (w := w) (K := K) (mg := mg) (base := base) B (dfe X G c 10 (x := "_law_take") (n := 17) rfl rfl) 
  have c_law_pick := cal_Pick (P := P) (w := w) (K := K) (mg := mg) (base := base) B (dfe X G c 11 (x := "_law_pick") (n := 18) rfl rfl) c_law_take
  have c_law_same := cal_Same (P := P) (w := w) (K := K) (mg := mg) (base := base) B (dfe X G c 12 (x := "_law_same") (n := 19) rfl rfl) 2
  have c_law_names := cal_Names (P := P) (w := w) (K := K) (mg := mg) (base := base) B (dfe X G c 13 (x := "_law_names") (n := 20) rfl rfl) c_law_take
  have c_law_strewn := cal_Strewn (P := P) (w := w) (K := K) (mg := mg) (base := base) B (dfe X G c 14 (x := "_law_strewn") (n := 21) rfl rfl) c_law_take
  have c_law_put_together := cal_Tog (P := P) (w := w) (K := K) (mg := mg) (base := base) B (dfe X G c 15 (x := "_law_put_together") (n := 22) rfl rfl) 
  have c_law_stand := cal_Stand (P := P) (w := w) (K := K) (mg := mg) (base := base) B (dfe X G c 16 (x := "_law_stand") (n := 23) rfl rfl) c_law_take c_law_pick c_law_names c_law_put_together
  have c_law_sums := cal_Sums (P := P) (w := w) (K := K) (mg := mg) (base := base) B (dfe X G c 17 (x := "_law_sums") (n := 24) rfl rfl) 
  have c_law_spots := cal_Spots (P := P) (w := w) (K := K) (mg := mg) (base := base) B (dfe X G c 18 (x := "_law_spots") (n := 25) rfl rfl) 
  have c_law_all_spots := cal_All (P := P) (w := w) (K := K) (mg := mg) (base := base) B (dfe X G c 19 (x := "_law_all_spots") (n := 26) rfl rfl) 
  have c_law_with := cal_With (P := P) (w := w) (K := K) (mg := mg) (base := base) B (dfe X G c 20 (x := "_law_with") (n := 27) rfl rfl) c_law_put_together
  have c_law_at_the_end := cal_End (P := P) (w := w) (K := K) (mg := mg) (base := base) B (dfe X G c 21 (x := "_law_at_the_end") (n := 28) rfl rfl) c_law_put_together c_law_sums
  have c_law_ways := cal_WaysL (P := P) (w := w) (K := K) (mg := mg) (base := base) B (dfe X G c 22 (x := "_law_ways") (n := 29) rfl rfl) c_law_all_spots c_law_spots c_law_sums
  have c_law_behind := cal_Behind (P := P) (w := w) (K := K) (mg := mg) (base := base) B (dfe X G c 23 (x := "_law_behind") (n := 30) rfl rfl) c_law_with c_law_at_the_end
  have c_law_led := cal_Led (P := P) (w := w) (K := K) (mg := mg) (base := base) B (dfe X G c 24 (x := "_law_led") (n := 31) rfl rfl) c_law_take c_law_pick c_law_ways c_law_behind
  have c_law_shared := cal_Share (P := P) (w := w) (K := K) (mg := mg) (base := base) B (dfe X G c 25 (x := "_law_shared") (n := 32) rfl rfl) c_law_take c_law_strewn c_law_put_together c_law_sums
  have c_law_word := cal_Word (P := P) (w := w) (K := K) (mg := mg) (base := base) B (dfe X G c 26 (x := "_law_word") (n := 33) rfl rfl) 
  have c_law_is_in := cal_IsIn (P := P) (w := w) (K := K) (mg := mg) (base := base) B (dfe X G c 27 (x := "_law_is_in") (n := 34) rfl rfl) 
  have c_law_tail := cal_Tail (P := P) (w := w) (K := K) (mg := mg) (base := base) B (dfe X G c 28 (x := "_law_tail") (n := 35) rfl rfl) c_law_sums c_law_spots
  have c_law_comes := cal_Comes (P := P) (w := w) (K := K) (mg := mg) (base := base) B (dfe X G c 29 (x := "_law_comes") (n := 36) rfl rfl) c_law_word c_law_tail c_law_is_in
  have c_law_lots := cal_Lots (P := P) (w := w) (K := K) (mg := mg) (base := base) B (dfe X G c 30 (x := "_law_lots") (n := 37) rfl rfl) 6
  have c_law_can_meet := cal_Can (P := P) (w := w) (K := K) (mg := mg) (base := base) B (dfe X G c 31 (x := "_law_can_meet") (n := 38) rfl rfl) c_law_sums c_law_word c_law_lots
  have c_law_right := cal_Right (P := P) (w := w) (K := K) (mg := mg) (base := base) B (dfe X G c 32 (x := "_law_right") (n := 39) rfl rfl) c_law_take c_law_stand c_law_led c_law_shared c_law_can_meet cmeets cmeeting c_law_same c_law_comes c_law_sums
  exact ok_Law B ⟨F, He.glo_ok X G (c.fact 33 (f := .glo "law") rfl)⟩ c_law_box c_law_right
end K8
open PySem PySem.W PySem.Calls PyProof.Rows
theorem PySem.Challenge.cw_shelflikes_k81_whole_meetings_by_all_cho_holds : PySem.Challenge.rw_shelflikes_k81_whole_meetings_by_all_cho.Holds := by
  w_on; o_law
  refine HandSHeadRun.head_any (r := K81.R) (q := view K81.R.prog [40]) (H := K81.hk) (ob := K81.ob) (M := 3000) (loose := K81.names) (d := HandSHeadRun.topDef K81.R.prog 40) (kwd := []) K81.ob_eq
    (by kernel_rfl) (fun s => by kernel_rfl) K81.run (by kernel_rfl) (by kernel_rfl) (by kernel_rfl) (by rfl) (by first | assumption | decide +kernel) (by decide +kernel) ⟨rfl, rfl, rfl, rfl, rfl, by decide +kernel⟩ ?hw ?hc
  case hw => w_witness2
  case hc =>
    refine L2.walk_ofE (l := PySem.Challenge.rw_shelflikes_k81_whole_meetings_by_all_cho) (n := 63) (k := 9) (x := "_law_script") (CX := L2.CX0) rfl (by decide) (by kernel_rfl) ⟨rfl, by decide, by decide⟩ ?F (fun _ _ _ _ z => z)
    intro w mg fa h Y G hmg0
    obtain ⟨K, KX, c⟩ := Y
    have hmg : mg ("law" : PySem.Str) = some (.ref fa) := by
      have e : (HandSHeadRun.topDef K81.R.prog 40).name = ("law" : PySem.Str) := by kernel_rfl
      rw [← e]
      exact hmg0
    obtain ⟨fd, hb, hF⟩ := K8.facts (P := (PySem.Challenge.rw_shelflikes_k81_whole_meetings_by_all_cho).prog) (w := w) KX G hmg c
    exact ⟨K, fd, K8.spLaw K, KX, hb, fun H a ns hl _ hS => ⟨a, ns, rfl, hS, Nat.lt_of_le_of_lt hl (by decide), fun _ => rfl⟩, hF⟩
end
