import PyProof.Rows.All
import Wide.All
import OpenK.AllK
import Wide.FinOn
import HandS.ForMost
import HandS.Codes
import HandS.SlotsVar
import HandS.Defaults
import HandS.MakeKwOnly
import HandS.HeadHook1
import HandS.HeadHook2
import HandS.HeadNt
import HandS.Property
import HandS.IsInst
import HandS.Evl
import HandS.Flow
import HandS.Style
import HandS.Star
import HandS.CallLocal
import HandS.DictComp
import HandS.DictTup
import HandS.SetKeys
import HandS.TupAny
import HandS.TupSets
import HandS.Slots
import HandS.SortKw
import HandS.More
import HandS.Strs
import HandS.Head0
import HandS.Head1
import HandS.Head2
import HandS.HeadEnd
import KE.GoesEnumKw
import KE.GoesMore
import HandS.SetFor
import HandS.OwnEq
import OpenK.KMeth
import OpenK.KOps
import HandS.SortOrd
import HandS.SortRule
import HandS.SetBool
import HandS.SetTxt0
import KE.SortCalls
import KE.KSortKey
import HandS.Sort
import HandS.Walk
import PySem.Challenge.RW_noworsecache_k32_whole_any_lending_keeps
set_option Elab.async false
set_option linter.all false
set_option maxRecDepth 100000
set_option maxHeartbeats 4000000
/-! A small separation logic over L2.Hp: Sat H [P, Q, ..]. -/
namespace N32
open PySem L2

abbrev Fp := Addr → Prop
def isTup : HO → Prop
  | .tup _ => True
  | _ => False
structure HP where
  on : Hp → Fp → Prop
  stay : ∀ {H H' : Hp} {F : Fp}, on H F → (∀ a o, H a = some o → F a ∨ isTup o → H' a = some o) → on H' F
  own : ∀ {H : Hp} {F : Fp}, on H F → ∀ a, F a → ∃ o, H a = some o ∧ ¬ isTup o

def SatF (H : Hp) : List HP → Fp → Prop
  | [], G => ∀ a, ¬ G a
  | P :: l, G => ∃ F1 F2 : Fp, P.on H F1 ∧ SatF H l F2 ∧ (∀ a, F1 a → ¬ F2 a) ∧ ∀ a, G a ↔ (F1 a ∨ F2 a)
def Sat (H : Hp) (l : List HP) : Prop := ∃ G, SatF H l G

theorem SatF.stay {H H' : Hp} : ∀ {l : List HP} {G : Fp}, SatF H l G → (∀ a o, H a = some o → G a ∨ isTup o → H' a = some o) → SatF H' l G
  | [], _, h, _ => h
  | P :: l, G, ⟨F1, F2, h1, h2, d, u⟩, k => ⟨F1, F2, P.stay h1 fun a o e z => k a o e (z.imp_left fun q => (u a).mpr (.inl q)),
      SatF.stay h2 fun a o e z => k a o e (z.imp_left fun q => (u a).mpr (.inr q)), d, u⟩
theorem SatF.own {H : Hp} : ∀ {l : List HP} {G : Fp}, SatF H l G → ∀ a, G a → ∃ o, H a = some o ∧ ¬ isTup o
  | [], _, h, a, z => (h a z).elim
  | P :: l, G, ⟨F1, F2, h1, h2, _, u⟩, a, z => by
    rcases (u a).mp z with z | z
    · exact P.own h1 a z
    · exact SatF.own h2 a z
theorem SatF.swap {H : Hp} {P Q : HP} {l : List HP} {G : Fp} (h : SatF H (P :: Q :: l) G) : SatF H (Q :: P :: l) G := by
  obtain ⟨F1, F2, h1, ⟨F3, F4, h3, h4, d2, u2⟩, d1, u1⟩ := h
  refine ⟨F3, fun a => F1 a ∨ F4 a, h3, ⟨F1, F4, h1, h4, fun a x y => d1 a x ((u2 a).mpr (.inr y)), fun a => Iff.rfl⟩, fun a x y => ?_, fun a => ?_⟩
  · rcases y with y | y
    · exact d1 a y ((u2 a).mpr (.inl x))
    · exact d2 a x y
  · rw [u1, u2]
    constructor
    · rintro (x | x | x)
      · exact .inr (.inl x)
      · exact .inl x
      · exact .inr (.inr x)
    · rintro (x | x | x)
      · exact .inr (.inl x)
      · exact .inl x
      · exact .inr (.inr x)
theorem SatF.perm {H : Hp} {l l' : List HP} (p : l.Perm l') : ∀ {G : Fp}, SatF H l G → SatF H l' G := by
  induction p with
  | nil => exact fun h => h
  | cons P _ ih => exact fun ⟨F1, F2, h1, h2, d, u⟩ => ⟨F1, F2, h1, ih h2, d, u⟩
  | swap P Q l => exact fun h => h.swap
  | trans _ _ i1 i2 => exact fun h => i2 (i1 h)
theorem SatF.app {H : Hp} : ∀ {l l' : List HP} {G : Fp}, SatF H (l ++ l') G ↔ ∃ F1 F2, SatF H l F1 ∧ SatF H l' F2 ∧ (∀ a, F1 a → ¬ F2 a) ∧ ∀ a, G a ↔ (F1 a ∨ F2 a)
  | [], l', G => by
    constructor
    · exact fun h => ⟨fun _ => False, G, fun _ z => z, h, fun _ z => z.elim, fun a => (false_or _).symm ▸ Iff.rfl⟩
    · rintro ⟨F1, F2, h1, h2, _, u⟩
      have e : G = F2 := funext fun a => propext ((u a).trans ⟨fun z => z.elim (fun q => (h1 a q).elim) id, .inr⟩)
      rw [e]; exact h2
  | P :: l, l', G => by
    constructor
    · rintro ⟨F1, F2, h1, h2, d, u⟩
      obtain ⟨F3, F4, h3, h4, d2, u2⟩ := SatF.app.mp h2
      refine ⟨fun a => F1 a ∨ F3 a, F4, ⟨F1, F3, h1, h3, fun a x y => d a x ((u2 a).mpr (.inl y)), fun _ => Iff.rfl⟩, h4, fun a x y => ?_, fun a => by rw [u, u2, or_assoc]⟩
      rcases x with x | x
      · exact d a x ((u2 a).mpr (.inr y))
      · exact d2 a x y
    · rintro ⟨F1, F2, ⟨F3, F4, h3, h4, d2, u2⟩, h2, d, u⟩
      refine ⟨F3, fun a => F4 a ∨ F2 a, h3, SatF.app.mpr ⟨F4, F2, h4, h2, fun a x y => d a ((u2 a).mpr (.inr x)) y, fun _ => Iff.rfl⟩, fun a x y => ?_, fun a => by rw [u, u2, or_assoc]⟩
      rcases y with y | y
      · exact d2 a x y
      · exact d a ((u2 a).mpr (.inl x)) y

/-! ### cells -/
/-- an object that may change, owned -/
def pt (p : Addr) (o : HO) : HP where
  on := fun H F => H p = some o ∧ ¬ isTup o ∧ ∀ a, F a ↔ a = p
  stay := fun ⟨e, n, u⟩ k => ⟨k _ _ e (.inl ((u _).mpr rfl)), n, u⟩
  own := fun ⟨e, n, u⟩ a z => ⟨_, (u a).mp z ▸ e, n⟩
/-- a tuple: for ever -/
def tp (p : Addr) (xs : List V) : HP where
  on := fun H F => H p = some (.tup xs) ∧ ∀ a, ¬ F a
  stay := fun ⟨e, n⟩ k => ⟨k _ _ e (.inr trivial), n⟩
  own := fun ⟨_, n⟩ a z => (n a z).elim
def pu (φ : Prop) : HP where
  on := fun _ F => φ ∧ ∀ a, ¬ F a
  stay := fun h _ => h
  own := fun ⟨_, n⟩ a z => (n a z).elim
def ex {α : Type} (P : α → HP) : HP where
  on := fun H F => ∃ x, (P x).on H F
  stay := fun ⟨x, h⟩ k => ⟨x, (P x).stay h k⟩
  own := fun ⟨x, h⟩ a z => (P x).own h a z
def al (l : List HP) : HP where
  on := fun H F => SatF H l F
  stay := fun h k => h.stay k
  own := fun h a z => h.own a z

section
variable {H H' : Hp} {l l' : List HP} {P Q : HP} {p q : Addr} {o o' : HO} {xs : List V}
theorem Sat.same (S : Same H H') (h : Sat H l) : Sat H' l := let ⟨G, g⟩ := h; ⟨G, g.stay fun a o e _ => S a o e⟩
theorem Sat.perm (e : l.Perm l') (h : Sat H l) : Sat H l' := let ⟨G, g⟩ := h; ⟨G, g.perm e⟩
theorem Sat.tail (h : Sat H (P :: l)) : Sat H l := let ⟨_, _, F2, _, h2, _⟩ := h; ⟨F2, h2⟩
theorem Sat.nil : Sat H [] := ⟨fun _ => False, fun _ z => z⟩
theorem pull_perm : ∀ {l : List HP} {i : Nat} {P : HP}, l[i]? = some P → l.Perm (P :: l.eraseIdx i)
  | [], i, P, e => by simp at e
  | a :: l, 0, P, e => by
    have : a = P := by simpa using e
    subst this
    exact .refl _
  | a :: l, i + 1, P, e => ((pull_perm (l := l) (i := i) (by simpa using e)).cons a).trans (.swap _ _ _)
theorem Sat.pull (h : Sat H l) (i : Nat) (e : l[i]? = some P) : Sat H (P :: l.eraseIdx i) := h.perm (pull_perm e)
theorem Sat.swap (h : Sat H (P :: Q :: l)) : Sat H (Q :: P :: l) := h.perm (.swap _ _ _)
theorem push_perm : ∀ {l : List HP} (i : Nat) {P : HP}, i ≤ l.length → (P :: l).Perm (l.insertIdx i P)
  | l, 0, P, _ => by simp
  | [], i + 1, P, h => by simp at h
  | a :: l, i + 1, P, h => by
    rw [List.insertIdx_succ_cons]
    exact (List.Perm.swap _ _ _).trans ((push_perm (l := l) i (by simpa using h)).cons a)
theorem Sat.get_front (h : Sat H (pt p o :: l)) : H p = some o := let ⟨_, _, _, h1, _⟩ := h; h1.1
theorem Sat.get (h : Sat H l) (i : Nat) (e : l[i]? = some (pt p o)) : H p = some o := (h.pull i e).get_front
theorem Sat.getT (h : Sat H l) (i : Nat) (e : l[i]? = some (tp p xs)) : H p = some (.tup xs) := let ⟨_, _, _, h1, _⟩ := h.pull i e; h1.1
theorem Sat.front (h : Sat H (pt p o :: l)) (n : ¬ isTup o') : Sat (upd H p o') (pt p o' :: l) := by
  obtain ⟨G, F1, F2, ⟨e, no, u1⟩, h2, d, u⟩ := h
  refine ⟨G, F1, F2, ⟨upd_same, n, u1⟩, h2.stay fun a ob ea z => ?_, d, u⟩
  have hne : a ≠ p := by
    rintro rfl
    rcases z with z | z
    · exact d a ((u1 a).mpr rfl) z
    · rw [e] at ea
      exact no (Option.some.inj ea ▸ z)
  rw [upd_ne hne]
  exact ea
theorem set_perm : ∀ {l : List HP} {i : Nat} {P Q : HP}, l[i]? = some P → (Q :: l.eraseIdx i).Perm (l.set i Q)
  | [], i, P, Q, e => by simp at e
  | a :: l, 0, P, Q, e => by simp
  | a :: l, i + 1, P, Q, e => by
    rw [List.set_cons_succ, List.eraseIdx_cons_succ]
    exact (List.Perm.swap _ _ _).trans ((set_perm (l := l) (i := i) (by simpa using e)).cons a)
theorem Sat.put (h : Sat H l) (i : Nat) (e : l[i]? = some (pt p o)) (n : ¬ isTup o' := by exact fun z => z) : Sat (upd H p o') (l.set i (pt p o')) :=
  ((h.pull i e).front n).perm (set_perm e)
theorem Sat.fresh (h : Sat H l) (hp : H p = none) : ∀ {G}, SatF H l G → ¬ G p := fun g z => by
  obtain ⟨ob, e, _⟩ := g.own p z
  rw [hp] at e; cases e
theorem Sat.skip (h : Sat H l) (hp : H p = none) : Sat (upd H p o) l := h.same fun a ob e => by rw [upd_ne (ne_of_none e hp)]; exact e
theorem Sat.new (h : Sat H l) (hp : H p = none) (n : ¬ isTup o := by exact fun z => z) : Sat (upd H p o) (pt p o :: l) := by
  obtain ⟨G, g⟩ := h
  refine ⟨fun a => a = p ∨ G a, fun a => a = p, G, ⟨upd_same, n, fun _ => Iff.rfl⟩, g.stay fun a ob e _ => by rw [upd_ne (ne_of_none e hp)]; exact e, ?_, fun _ => Iff.rfl⟩
  rintro a rfl z
  obtain ⟨ob, e, _⟩ := g.own _ z
  rw [hp] at e; cases e
theorem Sat.newT (h : Sat H l) (hp : H p = none) : Sat (upd H p (.tup xs)) (tp p xs :: l) := by
  obtain ⟨G, g⟩ := h.skip (o := .tup xs) hp
  exact ⟨G, fun _ => False, G, ⟨upd_same, fun _ z => z⟩, g, fun _ z => z.elim, fun _ => (false_or _).symm ▸ Iff.rfl⟩
/-- a tuple that stands is taken up -/
theorem Sat.addT (h : Sat H l) (e : H p = some (.tup xs)) : Sat H (tp p xs :: l) := by
  obtain ⟨G, g⟩ := h
  exact ⟨G, fun _ => False, G, ⟨e, fun _ z => z⟩, g, fun _ z => z.elim, fun _ => (false_or _).symm ▸ Iff.rfl⟩
theorem Sat.addP {φ : Prop} (h : Sat H l) (e : φ) : Sat H (pu φ :: l) := by
  obtain ⟨G, g⟩ := h
  exact ⟨G, fun _ => False, G, ⟨e, fun _ z => z⟩, g, fun _ z => z.elim, fun _ => (false_or _).symm ▸ Iff.rfl⟩
theorem Sat.prop {φ : Prop} (h : Sat H (pu φ :: l)) : φ := let ⟨_, _, _, h1, _⟩ := h; h1.1
theorem Sat.ex {α : Type} {P : α → HP} : Sat H (N32.ex P :: l) ↔ ∃ x, Sat H (P x :: l) :=
  ⟨fun ⟨G, F1, F2, ⟨x, h1⟩, r⟩ => ⟨x, G, F1, F2, h1, r⟩, fun ⟨x, G, F1, F2, h1, r⟩ => ⟨G, F1, F2, ⟨x, h1⟩, r⟩⟩
theorem Sat.al : Sat H (N32.al l' :: l) ↔ Sat H (l' ++ l) :=
  ⟨fun ⟨G, F1, F2, h1, h2, d, u⟩ => ⟨G, SatF.app.mpr ⟨F1, F2, h1, h2, d, u⟩⟩, fun ⟨G, g⟩ => let ⟨F1, F2, h1, h2, d, u⟩ := SatF.app.mp g; ⟨G, F1, F2, h1, h2, d, u⟩⟩
/-- a new instance -/
theorem Sat.made {x dx C : Addr} (h : Sat H l) (hx : H x = none) (hd : H dx = none) (ne : dx ≠ x) : Sat (upd (upd H dx (.own x)) x (.ins C dx [])) (pt x (.ins C dx []) :: l) :=
  (h.skip (o := .own x) hd).new (by rw [upd_ne ne.symm]; exact hx)
/-- .. with its dict, for instances with slots -/
theorem Sat.madeD {x dx C : Addr} (h : Sat H l) (hx : H x = none) (hd : H dx = none) (ne : dx ≠ x) : Sat (upd (upd H dx (.own x)) x (.ins C dx [])) (pt x (.ins C dx []) :: pt dx (.own x) :: l) :=
  (h.new (o := .own x) hd).new (by rw [upd_ne ne.symm]; exact hx)
/-- two owned cells stand apart -/
theorem Sat.apart (h : Sat H (pt p o :: pt q o' :: l)) : p ≠ q := by
  rintro rfl
  obtain ⟨G, F1, F2, ⟨_, _, u1⟩, ⟨F3, F4, ⟨_, _, u3⟩, _, _, u2⟩, d, _⟩ := h
  exact d p ((u1 p).mpr rfl) ((u2 p).mpr (.inl ((u3 p).mpr rfl)))
end
/-- what a tuple is stays -/
theorem Same.upd {H : Hp} {p : Addr} {o : HO} (hp : H p = none) : Same H (L2.upd H p o) := fun a ob e => by rw [upd_ne (ne_of_none e hp)]; exact e
end N32
set_option Elab.async false
set_option linter.all false
set_option maxRecDepth 100000
set_option maxHeartbeats 4000000
/-! The text by places, what the head tells (Ctx). -/
namespace N32
open PySem PySem.Spec PyProof.Rows L2
def top (i : Nat) : Stmt := PySem.Challenge.pw_noworsecache_k32_whole_any_lending_keeps.main.body.getD i (.Pass ⟨0, 0, 0, 0⟩)

def s_is_integer : Stmt := top 24
def s_is_between : Stmt := top 25
def s_is_text_of : Stmt := top 26
def s_is_page : Stmt := top 27
def s_is_name : Stmt := top 28
def s_is_path : Stmt := top 29
def s_check_page : Stmt := top 30
def s_check_number : Stmt := top 32
def s_check_kind : Stmt := top 33
def s_is_rule : Stmt := top 34
def s_check_rule : Stmt := top 35
def s_check_sizes : Stmt := top 36
def s_size_in : Stmt := top 37
def s_since_of : Stmt := top 39
def s_taken : Stmt := top 41
def s_is_answer : Stmt := top 43
def s_answer_of : Stmt := top 44
def s_Move_init : Stmt := inClass (top 46) 0
def s_Move_hit : Stmt := inClass (top 46) 1
def s_Move_kept : Stmt := inClass (top 46) 2
def s_Move_out : Stmt := inClass (top 46) 3
def s_Row_init : Stmt := inClass (top 48) 1
def s_Row_use : Stmt := inClass (top 48) 2
def s_Alone_init : Stmt := inClass (top 49) 0
def s_Alone_used : Stmt := inClass (top 49) 8
def s_Alone_entries : Stmt := inClass (top 49) 11
def s_Alone_pinned : Stmt := inClass (top 49) 12
def s_Alone_pinned_size : Stmt := inClass (top 49) 13
def s_Alone_free_entries : Stmt := inClass (top 49) 14
def s_Alone_request : Stmt := inClass (top 49) 15
def s_Alone_asked : Stmt := inClass (top 49) 16
def s_Alone_told : Stmt := inClass (top 49) 17
def s_Alone_thrown : Stmt := inClass (top 49) 18
def s_Alone_count : Stmt := inClass (top 49) 19
def s_Alone_note : Stmt := inClass (top 49) 20
def s_Alone_contains : Stmt := inClass (top 49) 27
def s_is_request : Stmt := top 51
def s_check_requests : Stmt := top 52
def s_Trace_init : Stmt := inClass (top 54) 0
def s_Trace_rows : Stmt := inClass (top 54) 2
def s_Trace_paths : Stmt := inClass (top 54) 7
def s_Trace_len : Stmt := inClass (top 54) 9
def s_lending_of : Stmt := top 59
def s_Group_init : Stmt := inClass (top 60) 0
def s_Group_tenants : Stmt := inClass (top 60) 1
def s_Group_levels : Stmt := inClass (top 60) 3
def s_levels_of : Stmt := top 61
def s_is_tenant : Stmt := top 62
def s_check_tenants : Stmt := top 63
def s_check_fit : Stmt := top 64
def s_leaves_of : Stmt := top 65
def s_Setup_init : Stmt := inClass (top 66) 0
def s_Setup_frames : Stmt := inClass (top 66) 1
def s_Setup_sizes : Stmt := inClass (top 66) 7
def s_Setup_size : Stmt := inClass (top 66) 8
def s_Setup_leaves : Stmt := inClass (top 66) 9
def s_Setup_found : Stmt := inClass (top 66) 10
def s_check_setup : Stmt := top 68
def s_check_trace : Stmt := top 69
def s_Checker_init : Stmt := inClass (top 71) 0
def s_Checker_holders : Stmt := inClass (top 71) 1
def s_Checker_paper : Stmt := inClass (top 71) 2
def s_Checker_step : Stmt := inClass (top 71) 3
def s_check_outs : Stmt := top 72
def s_check_paths : Stmt := top 73
def s_check_run : Stmt := top 74
def s_papers_of : Stmt := top 75
def s_l_hand : Stmt := top 77
def s_l_draw : Stmt := top 78
def s_l_trace : Stmt := top 79
def s_l_first : Stmt := top 80
def s_l_turning : Stmt := top 81
def s_l_least : Stmt := top 82
def s_l_generous : Stmt := top 83
def s_l_shy : Stmt := top 84
def s_l_wild : Stmt := top 85
def s_l_rule : Stmt := top 86
def s_l_tenants : Stmt := top 87
def s_l_of : Stmt := top 88
def s_l_paths : Stmt := top 89
def s_l_setup : Stmt := top 90
def s_l_some_outs : Stmt := top 91
def s_l_law : Stmt := top 92
def d_is_integer : He5.DefA := ⟨fun K => He.ga K "is_integer", "is_integer", "is_integer", L2.defArgs s_is_integer, L2.defBody s_is_integer, L2.defScope s_is_integer, [], []⟩
def d_is_between : He5.DefA := ⟨fun K => He.ga K "is_between", "is_between", "is_between", L2.defArgs s_is_between, L2.defBody s_is_between, L2.defScope s_is_between, [], []⟩
def d_is_text_of : He5.DefA := ⟨fun K => He.ga K "is_text_of", "is_text_of", "is_text_of", L2.defArgs s_is_text_of, L2.defBody s_is_text_of, L2.defScope s_is_text_of, [], []⟩
def d_is_page : He5.DefA := ⟨fun K => He.ga K "is_page", "is_page", "is_page", L2.defArgs s_is_page, L2.defBody s_is_page, L2.defScope s_is_page, [], []⟩
def d_is_name : He5.DefA := ⟨fun K => He.ga K "is_name", "is_name", "is_name", L2.defArgs s_is_name, L2.defBody s_is_name, L2.defScope s_is_name, [], []⟩
def d_is_path : He5.DefA := ⟨fun K => He.ga K "is_path", "is_path", "is_path", L2.defArgs s_is_path, L2.defBody s_is_path, L2.defScope s_is_path, [], []⟩
def d_check_page : He5.DefA := ⟨fun K => He.ga K "check_page", "check_page", "check_page", L2.defArgs s_check_page, L2.defBody s_check_page, L2.defScope s_check_page, [], []⟩
def d_check_number : He5.DefA := ⟨fun K => He.ga K "check_number", "check_number", "check_number", L2.defArgs s_check_number, L2.defBody s_check_number, L2.defScope s_check_number, [], []⟩
def d_check_kind : He5.DefA := ⟨fun K => He.ga K "check_kind", "check_kind", "check_kind", L2.defArgs s_check_kind, L2.defBody s_check_kind, L2.defScope s_check_kind, [], []⟩
def d_is_rule : He5.DefA := ⟨fun K => He.ga K "is_rule", "is_rule", "is_rule", L2.defArgs s_is_rule, L2.defBody s_is_rule, L2.defScope s_is_rule, [], []⟩
def d_check_rule : He5.DefA := ⟨fun K => He.ga K "check_rule", "check_rule", "check_rule", L2.defArgs s_check_rule, L2.defBody s_check_rule, L2.defScope s_check_rule, [], []⟩
def d_check_sizes : He5.DefA := ⟨fun K => He.ga K "check_sizes", "check_sizes", "check_sizes", L2.defArgs s_check_sizes, L2.defBody s_check_sizes, L2.defScope s_check_sizes, [], []⟩
def d_size_in : He5.DefA := ⟨fun K => He.ga K "size_in", "size_in", "size_in", L2.defArgs s_size_in, L2.defBody s_size_in, L2.defScope s_size_in, [], []⟩
def d_since_of : He5.DefA := ⟨fun K => He.ga K "since_of", "since_of", "since_of", L2.defArgs s_since_of, L2.defBody s_since_of, L2.defScope s_since_of, [], []⟩
def d_taken : He5.DefA := ⟨fun K => He.ga K "taken", "taken", "taken", L2.defArgs s_taken, L2.defBody s_taken, L2.defScope s_taken, [], []⟩
def d_is_answer : He5.DefA := ⟨fun K => He.ga K "is_answer", "is_answer", "is_answer", L2.defArgs s_is_answer, L2.defBody s_is_answer, L2.defScope s_is_answer, [], []⟩
def d_answer_of : He5.DefA := ⟨fun K => He.ga K "answer_of", "answer_of", "answer_of", L2.defArgs s_answer_of, L2.defBody s_answer_of, L2.defScope s_answer_of, [], []⟩
def d_Move_init : He5.DefA := ⟨fun K => He.ma K (He.ga K "Move") "__init__", "__init__", "Move.__init__", L2.defArgs s_Move_init, L2.defBody s_Move_init, L2.defScope s_Move_init, [], []⟩
def d_Move_hit : He5.DefA := ⟨fun K => He5.wf K (He.ga K "Move") "property" "hit", "hit", "Move.hit", L2.defArgs s_Move_hit, L2.defBody s_Move_hit, L2.defScope s_Move_hit, [], []⟩
def d_Move_kept : He5.DefA := ⟨fun K => He5.wf K (He.ga K "Move") "property" "kept", "kept", "Move.kept", L2.defArgs s_Move_kept, L2.defBody s_Move_kept, L2.defScope s_Move_kept, [], []⟩
def d_Move_out : He5.DefA := ⟨fun K => He5.wf K (He.ga K "Move") "property" "out", "out", "Move.out", L2.defArgs s_Move_out, L2.defBody s_Move_out, L2.defScope s_Move_out, [], []⟩
def d_Row_init : He5.DefA := ⟨fun K => He.ma K (He.ga K "Row") "__init__", "__init__", "Row.__init__", L2.defArgs s_Row_init, L2.defBody s_Row_init, L2.defScope s_Row_init, [], []⟩
def d_Row_use : He5.DefA := ⟨fun K => He.ma K (He.ga K "Row") "use", "use", "Row.use", L2.defArgs s_Row_use, L2.defBody s_Row_use, L2.defScope s_Row_use, [], []⟩
def d_Alone_init : He5.DefA := ⟨fun K => He.ma K (He.ga K "Alone") "__init__", "__init__", "Alone.__init__", L2.defArgs s_Alone_init, L2.defBody s_Alone_init, L2.defScope s_Alone_init, [], [("sizes", .non), ("load", .int 0), ("write", .int 0)]⟩
def d_Alone_used : He5.DefA := ⟨fun K => He5.wf K (He.ga K "Alone") "property" "used", "used", "Alone.used", L2.defArgs s_Alone_used, L2.defBody s_Alone_used, L2.defScope s_Alone_used, [], []⟩
def d_Alone_entries : He5.DefA := ⟨fun K => He.ma K (He.ga K "Alone") "entries", "entries", "Alone.entries", L2.defArgs s_Alone_entries, L2.defBody s_Alone_entries, L2.defScope s_Alone_entries, [], []⟩
def d_Alone_pinned : He5.DefA := ⟨fun K => He.ma K (He.ga K "Alone") "pinned", "pinned", "Alone.pinned", L2.defArgs s_Alone_pinned, L2.defBody s_Alone_pinned, L2.defScope s_Alone_pinned, [], []⟩
def d_Alone_pinned_size : He5.DefA := ⟨fun K => He.ma K (He.ga K "Alone") "pinned_size", "pinned_size", "Alone.pinned_size", L2.defArgs s_Alone_pinned_size, L2.defBody s_Alone_pinned_size, L2.defScope s_Alone_pinned_size, [], []⟩
def d_Alone_free_entries : He5.DefA := ⟨fun K => He.ma K (He.ga K "Alone") "free_entries", "free_entries", "Alone.free_entries", L2.defArgs s_Alone_free_entries, L2.defBody s_Alone_free_entries, L2.defScope s_Alone_free_entries, [], []⟩
def d_Alone_request : He5.DefA := ⟨fun K => He.ma K (He.ga K "Alone") "request", "request", "Alone.request", L2.defArgs s_Alone_request, L2.defBody s_Alone_request, L2.defScope s_Alone_request, [], []⟩
def d_Alone_asked : He5.DefA := ⟨fun K => He.ma K (He.ga K "Alone") "asked", "asked", "Alone.asked", L2.defArgs s_Alone_asked, L2.defBody s_Alone_asked, L2.defScope s_Alone_asked, [], []⟩
def d_Alone_told : He5.DefA := ⟨fun K => He.ma K (He.ga K "Alone") "told", "told", "Alone.told", L2.defArgs s_Alone_told, L2.defBody s_Alone_told, L2.defScope s_Alone_told, [], []⟩
def d_Alone_thrown : He5.DefA := ⟨fun K => He.ma K (He.ga K "Alone") "thrown", "thrown", "Alone.thrown", L2.defArgs s_Alone_thrown, L2.defBody s_Alone_thrown, L2.defScope s_Alone_thrown, [], []⟩
def d_Alone_count : He5.DefA := ⟨fun K => He.ma K (He.ga K "Alone") "count", "count", "Alone.count", L2.defArgs s_Alone_count, L2.defBody s_Alone_count, L2.defScope s_Alone_count, [], []⟩
def d_Alone_note : He5.DefA := ⟨fun K => He.ma K (He.ga K "Alone") "note", "note", "Alone.note", L2.defArgs s_Alone_note, L2.defBody s_Alone_note, L2.defScope s_Alone_note, [], []⟩
def d_Alone_contains : He5.DefA := ⟨fun K => He.ma K (He.ga K "Alone") "__contains__", "__contains__", "Alone.__contains__", L2.defArgs s_Alone_contains, L2.defBody s_Alone_contains, L2.defScope s_Alone_contains, [], []⟩
def d_is_request : He5.DefA := ⟨fun K => He.ga K "is_request", "is_request", "is_request", L2.defArgs s_is_request, L2.defBody s_is_request, L2.defScope s_is_request, [], []⟩
def d_check_requests : He5.DefA := ⟨fun K => He.ga K "check_requests", "check_requests", "check_requests", L2.defArgs s_check_requests, L2.defBody s_check_requests, L2.defScope s_check_requests, [], []⟩
def d_Trace_init : He5.DefA := ⟨fun K => He.ma K (He.ga K "Trace") "__init__", "__init__", "Trace.__init__", L2.defArgs s_Trace_init, L2.defBody s_Trace_init, L2.defScope s_Trace_init, [.adr (He.dflAt ("Trace", some "__init__") 0)], []⟩
def d_Trace_rows : He5.DefA := ⟨fun K => He.ma K (He.ga K "Trace") "rows", "rows", "Trace.rows", L2.defArgs s_Trace_rows, L2.defBody s_Trace_rows, L2.defScope s_Trace_rows, [], []⟩
def d_Trace_paths : He5.DefA := ⟨fun K => He.ma K (He.ga K "Trace") "paths", "paths", "Trace.paths", L2.defArgs s_Trace_paths, L2.defBody s_Trace_paths, L2.defScope s_Trace_paths, [], []⟩
def d_Trace_len : He5.DefA := ⟨fun K => He.ma K (He.ga K "Trace") "__len__", "__len__", "Trace.__len__", L2.defArgs s_Trace_len, L2.defBody s_Trace_len, L2.defScope s_Trace_len, [], []⟩
def d_lending_of : He5.DefA := ⟨fun K => He.ga K "lending_of", "lending_of", "lending_of", L2.defArgs s_lending_of, L2.defBody s_lending_of, L2.defScope s_lending_of, [], []⟩
def d_Group_init : He5.DefA := ⟨fun K => He.ma K (He.ga K "Group") "__init__", "__init__", "Group.__init__", L2.defArgs s_Group_init, L2.defBody s_Group_init, L2.defScope s_Group_init, [], [("lending", .non)]⟩
def d_Group_tenants : He5.DefA := ⟨fun K => He5.wf K (He.ga K "Group") "property" "tenants", "tenants", "Group.tenants", L2.defArgs s_Group_tenants, L2.defBody s_Group_tenants, L2.defScope s_Group_tenants, [], []⟩
def d_Group_levels : He5.DefA := ⟨fun K => He5.wf K (He.ga K "Group") "property" "levels", "levels", "Group.levels", L2.defArgs s_Group_levels, L2.defBody s_Group_levels, L2.defScope s_Group_levels, [], []⟩
def d_levels_of : He5.DefA := ⟨fun K => He.ga K "levels_of", "levels_of", "levels_of", L2.defArgs s_levels_of, L2.defBody s_levels_of, L2.defScope s_levels_of, [], []⟩
def d_is_tenant : He5.DefA := ⟨fun K => He.ga K "is_tenant", "is_tenant", "is_tenant", L2.defArgs s_is_tenant, L2.defBody s_is_tenant, L2.defScope s_is_tenant, [], []⟩
def d_check_tenants : He5.DefA := ⟨fun K => He.ga K "check_tenants", "check_tenants", "check_tenants", L2.defArgs s_check_tenants, L2.defBody s_check_tenants, L2.defScope s_check_tenants, [], []⟩
def d_check_fit : He5.DefA := ⟨fun K => He.ga K "check_fit", "check_fit", "check_fit", L2.defArgs s_check_fit, L2.defBody s_check_fit, L2.defScope s_check_fit, [], []⟩
def d_leaves_of : He5.DefA := ⟨fun K => He.ga K "leaves_of", "leaves_of", "leaves_of", L2.defArgs s_leaves_of, L2.defBody s_leaves_of, L2.defScope s_leaves_of, [], []⟩
def d_Setup_init : He5.DefA := ⟨fun K => He.ma K (He.ga K "Setup") "__init__", "__init__", "Setup.__init__", L2.defArgs s_Setup_init, L2.defBody s_Setup_init, L2.defScope s_Setup_init, [], [("sizes", .non), ("lending", .non), ("load", .int 0), ("write", .int 0), ("late", .bl false)]⟩
def d_Setup_frames : He5.DefA := ⟨fun K => He5.wf K (He.ga K "Setup") "property" "frames", "frames", "Setup.frames", L2.defArgs s_Setup_frames, L2.defBody s_Setup_frames, L2.defScope s_Setup_frames, [], []⟩
def d_Setup_sizes : He5.DefA := ⟨fun K => He.ma K (He.ga K "Setup") "sizes", "sizes", "Setup.sizes", L2.defArgs s_Setup_sizes, L2.defBody s_Setup_sizes, L2.defScope s_Setup_sizes, [], []⟩
def d_Setup_size : He5.DefA := ⟨fun K => He.ma K (He.ga K "Setup") "size", "size", "Setup.size", L2.defArgs s_Setup_size, L2.defBody s_Setup_size, L2.defScope s_Setup_size, [], []⟩
def d_Setup_leaves : He5.DefA := ⟨fun K => He.ma K (He.ga K "Setup") "leaves", "leaves", "Setup.leaves", L2.defArgs s_Setup_leaves, L2.defBody s_Setup_leaves, L2.defScope s_Setup_leaves, [], []⟩
def d_Setup_found : He5.DefA := ⟨fun K => He.ma K (He.ga K "Setup") "found", "found", "Setup.found", L2.defArgs s_Setup_found, L2.defBody s_Setup_found, L2.defScope s_Setup_found, [], []⟩
def d_check_setup : He5.DefA := ⟨fun K => He.ga K "check_setup", "check_setup", "check_setup", L2.defArgs s_check_setup, L2.defBody s_check_setup, L2.defScope s_check_setup, [], []⟩
def d_check_trace : He5.DefA := ⟨fun K => He.ga K "check_trace", "check_trace", "check_trace", L2.defArgs s_check_trace, L2.defBody s_check_trace, L2.defScope s_check_trace, [], []⟩
def d_Checker_init : He5.DefA := ⟨fun K => He.ma K (He.ga K "Checker") "__init__", "__init__", "Checker.__init__", L2.defArgs s_Checker_init, L2.defBody s_Checker_init, L2.defScope s_Checker_init, [], []⟩
def d_Checker_holders : He5.DefA := ⟨fun K => He.ma K (He.ga K "Checker") "holders", "holders", "Checker.holders", L2.defArgs s_Checker_holders, L2.defBody s_Checker_holders, L2.defScope s_Checker_holders, [], []⟩
def d_Checker_paper : He5.DefA := ⟨fun K => He.ma K (He.ga K "Checker") "paper", "paper", "Checker.paper", L2.defArgs s_Checker_paper, L2.defBody s_Checker_paper, L2.defScope s_Checker_paper, [], []⟩
def d_Checker_step : He5.DefA := ⟨fun K => He.ma K (He.ga K "Checker") "step", "step", "Checker.step", L2.defArgs s_Checker_step, L2.defBody s_Checker_step, L2.defScope s_Checker_step, [], []⟩
def d_check_outs : He5.DefA := ⟨fun K => He.ga K "check_outs", "check_outs", "check_outs", L2.defArgs s_check_outs, L2.defBody s_check_outs, L2.defScope s_check_outs, [], []⟩
def d_check_paths : He5.DefA := ⟨fun K => He.ga K "check_paths", "check_paths", "check_paths", L2.defArgs s_check_paths, L2.defBody s_check_paths, L2.defScope s_check_paths, [], []⟩
def d_check_run : He5.DefA := ⟨fun K => He.ga K "check_run", "check_run", "check_run", L2.defArgs s_check_run, L2.defBody s_check_run, L2.defScope s_check_run, [], []⟩
def d_papers_of : He5.DefA := ⟨fun K => He.ga K "papers_of", "papers_of", "papers_of", L2.defArgs s_papers_of, L2.defBody s_papers_of, L2.defScope s_papers_of, [], []⟩
def d_l_hand : He5.DefA := ⟨fun K => He.ga K "_law_hand", "_law_hand", "_law_hand", L2.defArgs s_l_hand, L2.defBody s_l_hand, L2.defScope s_l_hand, [], []⟩
def d_l_draw : He5.DefA := ⟨fun K => He.ga K "_law_draw", "_law_draw", "_law_draw", L2.defArgs s_l_draw, L2.defBody s_l_draw, L2.defScope s_l_draw, [], []⟩
def d_l_trace : He5.DefA := ⟨fun K => He.ga K "_law_trace", "_law_trace", "_law_trace", L2.defArgs s_l_trace, L2.defBody s_l_trace, L2.defScope s_l_trace, [], []⟩
def d_l_first : He5.DefA := ⟨fun K => He.ga K "_law_first", "_law_first", "_law_first", L2.defArgs s_l_first, L2.defBody s_l_first, L2.defScope s_l_first, [], []⟩
def d_l_turning : He5.DefA := ⟨fun K => He.ga K "_law_turning", "_law_turning", "_law_turning", L2.defArgs s_l_turning, L2.defBody s_l_turning, L2.defScope s_l_turning, [], []⟩
def d_l_least : He5.DefA := ⟨fun K => He.ga K "_law_least", "_law_least", "_law_least", L2.defArgs s_l_least, L2.defBody s_l_least, L2.defScope s_l_least, [], []⟩
def d_l_generous : He5.DefA := ⟨fun K => He.ga K "_law_generous", "_law_generous", "_law_generous", L2.defArgs s_l_generous, L2.defBody s_l_generous, L2.defScope s_l_generous, [], []⟩
def d_l_shy : He5.DefA := ⟨fun K => He.ga K "_law_shy", "_law_shy", "_law_shy", L2.defArgs s_l_shy, L2.defBody s_l_shy, L2.defScope s_l_shy, [], []⟩
def d_l_wild : He5.DefA := ⟨fun K => He.ga K "_law_wild", "_law_wild", "_law_wild", L2.defArgs s_l_wild, L2.defBody s_l_wild, L2.defScope s_l_wild, [], []⟩
def d_l_rule : He5.DefA := ⟨fun K => He.ga K "_law_rule", "_law_rule", "_law_rule", L2.defArgs s_l_rule, L2.defBody s_l_rule, L2.defScope s_l_rule, [], []⟩
def d_l_tenants : He5.DefA := ⟨fun K => He.ga K "_law_tenants", "_law_tenants", "_law_tenants", L2.defArgs s_l_tenants, L2.defBody s_l_tenants, L2.defScope s_l_tenants, [], []⟩
def d_l_of : He5.DefA := ⟨fun K => He.ga K "_law_of", "_law_of", "_law_of", L2.defArgs s_l_of, L2.defBody s_l_of, L2.defScope s_l_of, [], []⟩
def d_l_paths : He5.DefA := ⟨fun K => He.ga K "_law_paths", "_law_paths", "_law_paths", L2.defArgs s_l_paths, L2.defBody s_l_paths, L2.defScope s_l_paths, [], []⟩
def d_l_setup : He5.DefA := ⟨fun K => He.ga K "_law_setup", "_law_setup", "_law_setup", L2.defArgs s_l_setup, L2.defBody s_l_setup, L2.defScope s_l_setup, [], []⟩
def d_l_some_outs : He5.DefA := ⟨fun K => He.ga K "_law_some_outs", "_law_some_outs", "_law_some_outs", L2.defArgs s_l_some_outs, L2.defBody s_l_some_outs, L2.defScope s_l_some_outs, [], []⟩
def d_l_law : He5.DefA := ⟨fun K => He.ga K "law", "law", "law", L2.defArgs s_l_law, L2.defBody s_l_law, L2.defScope s_l_law, [], []⟩
def fn0 : List He5.DefA := [d_is_integer, d_is_between, d_is_text_of, d_is_page, d_is_name, d_is_path, d_check_page, d_check_number, d_check_kind, d_is_rule, d_check_rule, d_check_sizes, d_size_in, d_since_of, d_taken, d_is_answer, d_answer_of, d_Move_init, d_Move_hit, d_Move_kept, d_Move_out, d_Row_init, d_Row_use, d_Alone_init, d_Alone_used]
def fn1 : List He5.DefA := [d_Alone_entries, d_Alone_pinned, d_Alone_pinned_size, d_Alone_free_entries, d_Alone_request, d_Alone_asked, d_Alone_told, d_Alone_thrown, d_Alone_count, d_Alone_note, d_Alone_contains, d_is_request, d_check_requests, d_Trace_init, d_Trace_rows, d_Trace_paths, d_Trace_len, d_lending_of, d_Group_init, d_Group_tenants, d_Group_levels, d_levels_of, d_is_tenant, d_check_tenants, d_check_fit]
def fn2 : List He5.DefA := [d_leaves_of, d_Setup_init, d_Setup_frames, d_Setup_sizes, d_Setup_size, d_Setup_leaves, d_Setup_found, d_check_setup, d_check_trace, d_Checker_init, d_Checker_holders, d_Checker_paper, d_Checker_step, d_check_outs, d_check_paths, d_check_run, d_papers_of, d_l_hand, d_l_draw, d_l_trace, d_l_first, d_l_turning, d_l_least, d_l_generous, d_l_shy]
def fn3 : List He5.DefA := [d_l_wild, d_l_rule, d_l_tenants, d_l_of, d_l_paths, d_l_setup, d_l_some_outs, d_l_law]
def fnL : List He5.DefA := fn0 ++ fn1 ++ fn2 ++ fn3
def gloN0 : List Str := ["is_integer", "is_between", "is_text_of", "is_page", "is_name", "is_path", "check_page", "check_number", "check_kind", "is_rule", "check_rule", "check_sizes", "size_in", "since_of", "taken", "is_answer", "answer_of", "is_request", "check_requests", "lending_of"]
def gloN1 : List Str := ["levels_of", "is_tenant", "check_tenants", "check_fit", "leaves_of", "check_setup", "check_trace", "check_outs", "check_paths", "check_run", "papers_of", "_law_hand", "_law_draw", "_law_trace", "_law_first", "_law_turning", "_law_least", "_law_generous", "_law_shy", "_law_wild"]
def gloN2 : List Str := ["_law_rule", "_law_tenants", "_law_of", "_law_paths", "_law_setup", "_law_some_outs", "law", "longest_unused", "Move", "Row", "Alone", "Trace", "Group", "Setup", "Checker"]
def gloN : List Str := gloN0 ++ gloN1 ++ gloN2
def freeN : List Str := ["isinstance", "int", "bool", "str", "list", "tuple", "dict", "set", "len", "all", "sum", "sorted", "enumerate", "zip", "range", "max", "min"]
def clsN : List Str := ["Move", "Alone", "Trace", "Group", "Setup", "Checker"]
def mkN : List Str := ["Move", "Row", "Alone", "Trace", "Group", "Setup", "Checker"]
def fldN : List (Str × Str) := [("Move", "own_hit"), ("Move", "own_kept"), ("Move", "own_out"), ("Move", "own_wrote"), ("Move", "own_served"), ("Alone", "own_share"), ("Alone", "own_rule"), ("Alone", "own_sizes"), ("Alone", "own_ticks"), ("Alone", "own_rows"), ("Alone", "own_dirty"), ("Alone", "own_pins"), ("Alone", "own_state"), ("Alone", "own_counts"), ("Alone", "own_moment"), ("Trace", "own_requests"), ("Group", "own_tenants"), ("Group", "own_lending"), ("Setup", "own_frames"), ("Setup", "own_tenants"), ("Setup", "own_sizes"), ("Setup", "own_lending"), ("Setup", "own_ticks"), ("Setup", "own_late"), ("Checker", "own_setup"), ("Checker", "own_machines"), ("Checker", "own_there"), ("Checker", "own_since"), ("Checker", "own_free"), ("Checker", "own_number")]
def metN : List (Str × Str) := [("Row", "use"), ("Alone", "entries"), ("Alone", "pinned"), ("Alone", "pinned_size"), ("Alone", "free_entries"), ("Alone", "request"), ("Alone", "asked"), ("Alone", "told"), ("Alone", "thrown"), ("Alone", "count"), ("Alone", "note"), ("Alone", "__contains__"), ("Trace", "rows"), ("Trace", "paths"), ("Trace", "__len__"), ("Setup", "sizes"), ("Setup", "size"), ("Setup", "leaves"), ("Setup", "found"), ("Checker", "holders"), ("Checker", "paper"), ("Checker", "step")]
def propN : List (Str × Str) := [("Move", "hit"), ("Move", "kept"), ("Move", "out"), ("Alone", "used"), ("Group", "tenants"), ("Group", "levels"), ("Setup", "frames")]
def rowN : List (Str × Nat) := [("since", 1), ("last", 0), ("uses", 3), ("start", 2)]
def ruleN : List Str := ["_law_first", "_law_turning", "_law_least", "_law_generous", "_law_shy", "_law_wild"]
def fR (K : PySem.W.Frag) (r : Nat) : Addr := He.ga K (ruleN.getD r "_law_first")
def insN : List Str := ["Group", "Setup", "Trace"]

/-- what the head tells of the written part K and of the module's names -/
structure Ctx (K : PySem.W.Frag) (mg : Str → Option Value) : Prop where
  says : He5.SaysA [] fnL K
  glo : ∀ x ∈ gloN, mg x = some (.ref (He.ga K x))
  free : ∀ x ∈ freeN, mg x = none
  mostNumber : ∃ t, mg "MOST_NUMBER" = some (.int 1000000000 t)
  mostSize : ∃ t, mg "MOST_SIZE" = some (.int 1000000 t)
  mostTicks : ∃ t, mg "MOST_TICKS" = some (.int 1000 t)
  mostLevels : ∃ t, mg "MOST_LEVELS" = some (.int 3 t)
  mostTenants : ∃ t, mg "MOST_TENANTS" = some (.int 8 t)
  letters : ∃ t, mg "LETTERS" = some (.str "abcdefghijklmnopqrstuvwxyz" t)
  digits : ∃ t, mg "DIGITS" = some (.str "0123456789" t)
  kindsG : mg "KINDS" = some (.ref (He.ga K "KINDS"))
  kinds : ∀ H : Hp, SqT K H (He.ga K "KINDS") [.str "read", .str "write"]
  cls : ∀ x ∈ clsN, Cls K (He.ga K x)
  mks : ∀ x ∈ mkN, Mk K (He.ga K x) (He.ma K (He.ga K x) "__init__")
  noat : ∀ p ∈ fldN, NoAttr K (He.ga K p.1) p.2
  met : ∀ p ∈ metN, Meth K (He.ga K p.1) p.2 (He.ma K (He.ga K p.1) p.2)
  ruleT : ∀ r, r < 6 → ∃ o, K.lookup (fR K r) = some o ∧ o.cls = .type "function"
  insC : ∀ x ∈ insN, C8.InsC K (He.ga K x)
  fnG : PySem.W.kitOne K (.type "function") (.ref (He.ga K "Group")) = some false
  rowC : SlX.SCls K (He.ga K "Row")
  rowS : ∀ p ∈ rowN, SlX.Slot1 K (He.ga K "Row") p.1 (He.ma K (He.ga K "Row") p.1) p.2
  prop : ∀ p ∈ propN, PropOf K (He.ga K p.1) p.2 (He.ma K (He.ga K p.1) p.2) (He5.wf K (He.ga K p.1) "property" p.2)
section
variable {P : Program} {w : World} {K : PySem.W.Frag} {mg : Str → Option Value} {base : Heap}
/-- a def of no defaults, by its body -/
theorem cal_of {x : Str} {st : Stmt} {f : Addr} {N ps : List Str} {k : Nat} {sp : Sp} (F : ∃ fd, FunD K x x (defArgs st) (defBody st) (defScope st) [] [] f fd) (hm : mg x = some (.ref f)) (S : FnScope N ps (defScope st))
    (b : ∀ (kV doc pm : Value) (an : Option Addr) (cdv ct : Value) (us : List Value), us.length = ps.length → bindArgs (PySem.W.fnOf x x (defArgs st) (defBody st) (defScope st) .none kV doc pm an cdv ct) ⟨us, []⟩ = pure (ps.zip us))
    (len : ∀ vs H Q E, sp vs H Q E → vs.length = ps.length)
    (hbody : ∀ (cdv : Value) (A : Around) (outer : List Env) (s : Shared) (H : Hp) (vs : List V) (Q : VK) (E : XK), Room k (A.deeper (envOfC x (defScope st) s.heap.objs.size f cdv)) → sp vs H Q E →
      ∃ t, PSs (cxOf C8.CX0 P w K mg base N x (defScope st) f cdv A outer s H E).nox (defBody st) t ∧ t { nx := fun _ H' => Q .non H', rt := Q } (start N vs) H) : C8.Cal P w K mg base (k + 1) x sp [] := by
  obtain ⟨fd, F⟩ := F
  refine ⟨f, fd, ps, [], F.ok S len (fun cdv A outer s H vs Q E hr h => ?_), hm, F.kp, F.bindsN b, .nil⟩
  obtain ⟨t, h1, h2⟩ := hbody cdv A outer s H vs Q E hr h
  exact ⟨t, h1.nox, h2⟩
/-- a method of no defaults -/
theorem met_of {C m qual : Str} {st : Stmt} {f : Addr} {N ps : List Str} {k : Nat} {sp : Sp} (F : ∃ fd, FunD K m qual (defArgs st) (defBody st) (defScope st) [] [] f fd) (c : Cls K (He.ga K C)) (me : Meth K (He.ga K C) m f) (S : FnScope N ps (defScope st))
    (b : ∀ (kV doc pm : Value) (an : Option Addr) (cdv ct : Value) (us : List Value), us.length = ps.length → bindArgs (PySem.W.fnOf m qual (defArgs st) (defBody st) (defScope st) .none kV doc pm an cdv ct) ⟨us, []⟩ = pure (ps.zip us))
    (len : ∀ vs H Q E, sp vs H Q E → vs.length = ps.length)
    (hbody : ∀ (cdv : Value) (A : Around) (outer : List Env) (s : Shared) (H : Hp) (vs : List V) (Q : VK) (E : XK), Room k (A.deeper (envOfC qual (defScope st) s.heap.objs.size f cdv)) → sp vs H Q E →
      ∃ t, PSs (cxOf C8.CX0 P w K mg base N qual (defScope st) f cdv A outer s H E).nox (defBody st) t ∧ t { nx := fun _ H' => Q .non H', rt := Q } (start N vs) H) : C8.Met P w K mg base (k + 1) (He.ga K C) m sp [] := by
  obtain ⟨fd, F⟩ := F
  refine ⟨f, fd, ps, [], c, me, F.ok S len (fun cdv A outer s H vs Q E hr h => ?_), F.bindsN b, .nil⟩
  obtain ⟨t, h1, h2⟩ := hbody cdv A outer s H vs Q E hr h
  exact ⟨t, h1.nox, h2⟩
/-- a property -/
structure Prp (P : Program) (w : World) (K : PySem.W.Frag) (mg : Str → Option Value) (base : Heap) (k : Nat) (C : Addr) (m : Str) (sp : Sp) : Prop where
  ex : ∃ (p f : Addr) (fd : FuncData) (ps : List Str), Cls K C ∧ PropOf K C m p f ∧ FnOk P w K mg base C8.CX0 k f fd ps sp ∧ Binds K fd ps []
theorem prp_of {C m qual : Str} {st : Stmt} {p f : Addr} {N ps : List Str} {k : Nat} {sp : Sp} (F : ∃ fd, FunD K m qual (defArgs st) (defBody st) (defScope st) [] [] f fd) (c : Cls K (He.ga K C)) (me : PropOf K (He.ga K C) m p f) (S : FnScope N ps (defScope st))
    (b : ∀ (kV doc pm : Value) (an : Option Addr) (cdv ct : Value) (us : List Value), us.length = ps.length → bindArgs (PySem.W.fnOf m qual (defArgs st) (defBody st) (defScope st) .none kV doc pm an cdv ct) ⟨us, []⟩ = pure (ps.zip us))
    (len : ∀ vs H Q E, sp vs H Q E → vs.length = ps.length)
    (hbody : ∀ (cdv : Value) (A : Around) (outer : List Env) (s : Shared) (H : Hp) (vs : List V) (Q : VK) (E : XK), Room k (A.deeper (envOfC qual (defScope st) s.heap.objs.size f cdv)) → sp vs H Q E →
      ∃ t, PSs (cxOf C8.CX0 P w K mg base N qual (defScope st) f cdv A outer s H E).nox (defBody st) t ∧ t { nx := fun _ H' => Q .non H', rt := Q } (start N vs) H) : Prp P w K mg base (k + 1) (He.ga K C) m sp := by
  obtain ⟨fd, F⟩ := F
  refine ⟨p, f, fd, ps, c, me, F.ok S len (fun cdv A outer s H vs Q E hr h => ?_), F.bindsN b⟩
  obtain ⟨t, h1, h2⟩ := hbody cdv A outer s H vs Q E hr h
  exact ⟨t, h1.nox, h2⟩
/-- an __init__ of no defaults -/
theorem mak_of {C qual : Str} {st : Stmt} {f : Addr} {N ps : List Str} {k : Nat} {sp : Sp} (F : ∃ fd, FunD K "__init__" qual (defArgs st) (defBody st) (defScope st) [] [] f fd) (M : Mk K (He.ga K C) f) (hm : mg C = some (.ref (He.ga K C))) (S : FnScope N ps (defScope st))
    (b : ∀ (kV doc pm : Value) (an : Option Addr) (cdv ct : Value) (us : List Value), us.length = ps.length → bindArgs (PySem.W.fnOf "__init__" qual (defArgs st) (defBody st) (defScope st) .none kV doc pm an cdv ct) ⟨us, []⟩ = pure (ps.zip us))
    (len : ∀ vs H Q E, sp vs H Q E → vs.length = ps.length)
    (hbody : ∀ (cdv : Value) (A : Around) (outer : List Env) (s : Shared) (H : Hp) (vs : List V) (Q : VK) (E : XK), Room k (A.deeper (envOfC qual (defScope st) s.heap.objs.size f cdv)) → sp vs H Q E →
      ∃ t, PSs (cxOf C8.CX0 P w K mg base N qual (defScope st) f cdv A outer s H E).nox (defBody st) t ∧ t { nx := fun _ H' => Q .non H', rt := Q } (start N vs) H) : C8.Mak P w K mg base (k + 1) C (He.ga K C) sp [] := by
  obtain ⟨fd, F⟩ := F
  refine ⟨f, fd, ps, [], M, F.ok S len (fun cdv A outer s H vs Q E hr h => ?_), hm, F.bindsN b, .nil⟩
  obtain ⟨t, h1, h2⟩ := hbody cdv A outer s H vs Q E hr h
  exact ⟨t, h1.nox, h2⟩
end
section
variable {X : Cx} {k j : Nat} {C : Addr} {m : Str} {sp : Sp} {e : Expr} {pos : Pos} {ta : TE}
theorem pe_pr (c : Prp X.prog X.w X.K X.mg X.base k C m sp) (hr : Room j X.A) (hk : k + 1 ≤ j) (he : PE X e ta)
    (hab : attributeBase e m X.env (eval e X.env) = eval e X.env := by rfl) : PE X (.Attribute e m pos) (tProp C sp [] C8.E0 ta) := by
  obtain ⟨p, f, fd, ps, hc, hp, F, b⟩ := c.ex
  exact pe_prop he hc hp F (hr.mono hk) b .nil C8.pass0 hab
end
/-! ### the defs by their names -/
section
variable {K : PySem.W.Frag} {mg : Str → Option Value}

theorem Ctx.f_is_integer (T : Ctx K mg) : ∃ fd, FunD K "is_integer" "is_integer" (defArgs s_is_integer) (defBody s_is_integer) (defScope s_is_integer) [] [] (He.ga K "is_integer") fd := T.says.def_ 0 (d := d_is_integer) rfl
theorem Ctx.f_is_between (T : Ctx K mg) : ∃ fd, FunD K "is_between" "is_between" (defArgs s_is_between) (defBody s_is_between) (defScope s_is_between) [] [] (He.ga K "is_between") fd := T.says.def_ 1 (d := d_is_between) rfl
theorem Ctx.f_is_text_of (T : Ctx K mg) : ∃ fd, FunD K "is_text_of" "is_text_of" (defArgs s_is_text_of) (defBody s_is_text_of) (defScope s_is_text_of) [] [] (He.ga K "is_text_of") fd := T.says.def_ 2 (d := d_is_text_of) rfl
theorem Ctx.f_is_page (T : Ctx K mg) : ∃ fd, FunD K "is_page" "is_page" (defArgs s_is_page) (defBody s_is_page) (defScope s_is_page) [] [] (He.ga K "is_page") fd := T.says.def_ 3 (d := d_is_page) rfl
theorem Ctx.f_is_name (T : Ctx K mg) : ∃ fd, FunD K "is_name" "is_name" (defArgs s_is_name) (defBody s_is_name) (defScope s_is_name) [] [] (He.ga K "is_name") fd := T.says.def_ 4 (d := d_is_name) rfl
theorem Ctx.f_is_path (T : Ctx K mg) : ∃ fd, FunD K "is_path" "is_path" (defArgs s_is_path) (defBody s_is_path) (defScope s_is_path) [] [] (He.ga K "is_path") fd := T.says.def_ 5 (d := d_is_path) rfl
theorem Ctx.f_check_page (T : Ctx K mg) : ∃ fd, FunD K "check_page" "check_page" (defArgs s_check_page) (defBody s_check_page) (defScope s_check_page) [] [] (He.ga K "check_page") fd := T.says.def_ 6 (d := d_check_page) rfl
theorem Ctx.f_check_number (T : Ctx K mg) : ∃ fd, FunD K "check_number" "check_number" (defArgs s_check_number) (defBody s_check_number) (defScope s_check_number) [] [] (He.ga K "check_number") fd := T.says.def_ 7 (d := d_check_number) rfl
theorem Ctx.f_check_kind (T : Ctx K mg) : ∃ fd, FunD K "check_kind" "check_kind" (defArgs s_check_kind) (defBody s_check_kind) (defScope s_check_kind) [] [] (He.ga K "check_kind") fd := T.says.def_ 8 (d := d_check_kind) rfl
theorem Ctx.f_is_rule (T : Ctx K mg) : ∃ fd, FunD K "is_rule" "is_rule" (defArgs s_is_rule) (defBody s_is_rule) (defScope s_is_rule) [] [] (He.ga K "is_rule") fd := T.says.def_ 9 (d := d_is_rule) rfl
theorem Ctx.f_check_rule (T : Ctx K mg) : ∃ fd, FunD K "check_rule" "check_rule" (defArgs s_check_rule) (defBody s_check_rule) (defScope s_check_rule) [] [] (He.ga K "check_rule") fd := T.says.def_ 10 (d := d_check_rule) rfl
theorem Ctx.f_check_sizes (T : Ctx K mg) : ∃ fd, FunD K "check_sizes" "check_sizes" (defArgs s_check_sizes) (defBody s_check_sizes) (defScope s_check_sizes) [] [] (He.ga K "check_sizes") fd := T.says.def_ 11 (d := d_check_sizes) rfl
theorem Ctx.f_size_in (T : Ctx K mg) : ∃ fd, FunD K "size_in" "size_in" (defArgs s_size_in) (defBody s_size_in) (defScope s_size_in) [] [] (He.ga K "size_in") fd := T.says.def_ 12 (d := d_size_in) rfl
theorem Ctx.f_since_of (T : Ctx K mg) : ∃ fd, FunD K "since_of" "since_of" (defArgs s_since_of) (defBody s_since_of) (defScope s_since_of) [] [] (He.ga K "since_of") fd := T.says.def_ 13 (d := d_since_of) rfl
theorem Ctx.f_taken (T : Ctx K mg) : ∃ fd, FunD K "taken" "taken" (defArgs s_taken) (defBody s_taken) (defScope s_taken) [] [] (He.ga K "taken") fd := T.says.def_ 14 (d := d_taken) rfl
theorem Ctx.f_is_answer (T : Ctx K mg) : ∃ fd, FunD K "is_answer" "is_answer" (defArgs s_is_answer) (defBody s_is_answer) (defScope s_is_answer) [] [] (He.ga K "is_answer") fd := T.says.def_ 15 (d := d_is_answer) rfl
theorem Ctx.f_answer_of (T : Ctx K mg) : ∃ fd, FunD K "answer_of" "answer_of" (defArgs s_answer_of) (defBody s_answer_of) (defScope s_answer_of) [] [] (He.ga K "answer_of") fd := T.says.def_ 16 (d := d_answer_of) rfl
theorem Ctx.f_Move_init (T : Ctx K mg) : ∃ fd, FunD K "__init__" "Move.__init__" (defArgs s_Move_init) (defBody s_Move_init) (defScope s_Move_init) [] [] (He.ma K (He.ga K "Move") "__init__") fd := T.says.def_ 17 (d := d_Move_init) rfl
theorem Ctx.f_Move_hit (T : Ctx K mg) : ∃ fd, FunD K "hit" "Move.hit" (defArgs s_Move_hit) (defBody s_Move_hit) (defScope s_Move_hit) [] [] (He5.wf K (He.ga K "Move") "property" "hit") fd := T.says.def_ 18 (d := d_Move_hit) rfl
theorem Ctx.f_Move_kept (T : Ctx K mg) : ∃ fd, FunD K "kept" "Move.kept" (defArgs s_Move_kept) (defBody s_Move_kept) (defScope s_Move_kept) [] [] (He5.wf K (He.ga K "Move") "property" "kept") fd := T.says.def_ 19 (d := d_Move_kept) rfl
theorem Ctx.f_Move_out (T : Ctx K mg) : ∃ fd, FunD K "out" "Move.out" (defArgs s_Move_out) (defBody s_Move_out) (defScope s_Move_out) [] [] (He5.wf K (He.ga K "Move") "property" "out") fd := T.says.def_ 20 (d := d_Move_out) rfl
theorem Ctx.f_Row_init (T : Ctx K mg) : ∃ fd, FunD K "__init__" "Row.__init__" (defArgs s_Row_init) (defBody s_Row_init) (defScope s_Row_init) [] [] (He.ma K (He.ga K "Row") "__init__") fd := T.says.def_ 21 (d := d_Row_init) rfl
theorem Ctx.f_Row_use (T : Ctx K mg) : ∃ fd, FunD K "use" "Row.use" (defArgs s_Row_use) (defBody s_Row_use) (defScope s_Row_use) [] [] (He.ma K (He.ga K "Row") "use") fd := T.says.def_ 22 (d := d_Row_use) rfl
theorem Ctx.f_Alone_init (T : Ctx K mg) : ∃ fd, FunD K "__init__" "Alone.__init__" (defArgs s_Alone_init) (defBody s_Alone_init) (defScope s_Alone_init) [] [("sizes", .non), ("load", .int 0), ("write", .int 0)] (He.ma K (He.ga K "Alone") "__init__") fd := T.says.def_ 23 (d := d_Alone_init) rfl
theorem Ctx.f_Alone_used (T : Ctx K mg) : ∃ fd, FunD K "used" "Alone.used" (defArgs s_Alone_used) (defBody s_Alone_used) (defScope s_Alone_used) [] [] (He5.wf K (He.ga K "Alone") "property" "used") fd := T.says.def_ 24 (d := d_Alone_used) rfl
theorem Ctx.f_Alone_entries (T : Ctx K mg) : ∃ fd, FunD K "entries" "Alone.entries" (defArgs s_Alone_entries) (defBody s_Alone_entries) (defScope s_Alone_entries) [] [] (He.ma K (He.ga K "Alone") "entries") fd := T.says.def_ 25 (d := d_Alone_entries) rfl
theorem Ctx.f_Alone_pinned (T : Ctx K mg) : ∃ fd, FunD K "pinned" "Alone.pinned" (defArgs s_Alone_pinned) (defBody s_Alone_pinned) (defScope s_Alone_pinned) [] [] (He.ma K (He.ga K "Alone") "pinned") fd := T.says.def_ 26 (d := d_Alone_pinned) rfl
theorem Ctx.f_Alone_pinned_size (T : Ctx K mg) : ∃ fd, FunD K "pinned_size" "Alone.pinned_size" (defArgs s_Alone_pinned_size) (defBody s_Alone_pinned_size) (defScope s_Alone_pinned_size) [] [] (He.ma K (He.ga K "Alone") "pinned_size") fd := T.says.def_ 27 (d := d_Alone_pinned_size) rfl
theorem Ctx.f_Alone_free_entries (T : Ctx K mg) : ∃ fd, FunD K "free_entries" "Alone.free_entries" (defArgs s_Alone_free_entries) (defBody s_Alone_free_entries) (defScope s_Alone_free_entries) [] [] (He.ma K (He.ga K "Alone") "free_entries") fd := T.says.def_ 28 (d := d_Alone_free_entries) rfl
theorem Ctx.f_Alone_request (T : Ctx K mg) : ∃ fd, FunD K "request" "Alone.request" (defArgs s_Alone_request) (defBody s_Alone_request) (defScope s_Alone_request) [] [] (He.ma K (He.ga K "Alone") "request") fd := T.says.def_ 29 (d := d_Alone_request) rfl
theorem Ctx.f_Alone_asked (T : Ctx K mg) : ∃ fd, FunD K "asked" "Alone.asked" (defArgs s_Alone_asked) (defBody s_Alone_asked) (defScope s_Alone_asked) [] [] (He.ma K (He.ga K "Alone") "asked") fd := T.says.def_ 30 (d := d_Alone_asked) rfl
theorem Ctx.f_Alone_told (T : Ctx K mg) : ∃ fd, FunD K "told" "Alone.told" (defArgs s_Alone_told) (defBody s_Alone_told) (defScope s_Alone_told) [] [] (He.ma K (He.ga K "Alone") "told") fd := T.says.def_ 31 (d := d_Alone_told) rfl
theorem Ctx.f_Alone_thrown (T : Ctx K mg) : ∃ fd, FunD K "thrown" "Alone.thrown" (defArgs s_Alone_thrown) (defBody s_Alone_thrown) (defScope s_Alone_thrown) [] [] (He.ma K (He.ga K "Alone") "thrown") fd := T.says.def_ 32 (d := d_Alone_thrown) rfl
theorem Ctx.f_Alone_count (T : Ctx K mg) : ∃ fd, FunD K "count" "Alone.count" (defArgs s_Alone_count) (defBody s_Alone_count) (defScope s_Alone_count) [] [] (He.ma K (He.ga K "Alone") "count") fd := T.says.def_ 33 (d := d_Alone_count) rfl
theorem Ctx.f_Alone_note (T : Ctx K mg) : ∃ fd, FunD K "note" "Alone.note" (defArgs s_Alone_note) (defBody s_Alone_note) (defScope s_Alone_note) [] [] (He.ma K (He.ga K "Alone") "note") fd := T.says.def_ 34 (d := d_Alone_note) rfl
theorem Ctx.f_Alone_contains (T : Ctx K mg) : ∃ fd, FunD K "__contains__" "Alone.__contains__" (defArgs s_Alone_contains) (defBody s_Alone_contains) (defScope s_Alone_contains) [] [] (He.ma K (He.ga K "Alone") "__contains__") fd := T.says.def_ 35 (d := d_Alone_contains) rfl
theorem Ctx.f_is_request (T : Ctx K mg) : ∃ fd, FunD K "is_request" "is_request" (defArgs s_is_request) (defBody s_is_request) (defScope s_is_request) [] [] (He.ga K "is_request") fd := T.says.def_ 36 (d := d_is_request) rfl
theorem Ctx.f_check_requests (T : Ctx K mg) : ∃ fd, FunD K "check_requests" "check_requests" (defArgs s_check_requests) (defBody s_check_requests) (defScope s_check_requests) [] [] (He.ga K "check_requests") fd := T.says.def_ 37 (d := d_check_requests) rfl
theorem Ctx.f_Trace_init (T : Ctx K mg) : ∃ fd, FunD K "__init__" "Trace.__init__" (defArgs s_Trace_init) (defBody s_Trace_init) (defScope s_Trace_init) [.ref (He.dflAt ("Trace", some "__init__") 0 K)] [] (He.ma K (He.ga K "Trace") "__init__") fd := T.says.def_ 38 (d := d_Trace_init) rfl
theorem Ctx.f_Trace_rows (T : Ctx K mg) : ∃ fd, FunD K "rows" "Trace.rows" (defArgs s_Trace_rows) (defBody s_Trace_rows) (defScope s_Trace_rows) [] [] (He.ma K (He.ga K "Trace") "rows") fd := T.says.def_ 39 (d := d_Trace_rows) rfl
theorem Ctx.f_Trace_paths (T : Ctx K mg) : ∃ fd, FunD K "paths" "Trace.paths" (defArgs s_Trace_paths) (defBody s_Trace_paths) (defScope s_Trace_paths) [] [] (He.ma K (He.ga K "Trace") "paths") fd := T.says.def_ 40 (d := d_Trace_paths) rfl
theorem Ctx.f_Trace_len (T : Ctx K mg) : ∃ fd, FunD K "__len__" "Trace.__len__" (defArgs s_Trace_len) (defBody s_Trace_len) (defScope s_Trace_len) [] [] (He.ma K (He.ga K "Trace") "__len__") fd := T.says.def_ 41 (d := d_Trace_len) rfl
theorem Ctx.f_lending_of (T : Ctx K mg) : ∃ fd, FunD K "lending_of" "lending_of" (defArgs s_lending_of) (defBody s_lending_of) (defScope s_lending_of) [] [] (He.ga K "lending_of") fd := T.says.def_ 42 (d := d_lending_of) rfl
theorem Ctx.f_Group_init (T : Ctx K mg) : ∃ fd, FunD K "__init__" "Group.__init__" (defArgs s_Group_init) (defBody s_Group_init) (defScope s_Group_init) [] [("lending", .non)] (He.ma K (He.ga K "Group") "__init__") fd := T.says.def_ 43 (d := d_Group_init) rfl
theorem Ctx.f_Group_tenants (T : Ctx K mg) : ∃ fd, FunD K "tenants" "Group.tenants" (defArgs s_Group_tenants) (defBody s_Group_tenants) (defScope s_Group_tenants) [] [] (He5.wf K (He.ga K "Group") "property" "tenants") fd := T.says.def_ 44 (d := d_Group_tenants) rfl
theorem Ctx.f_Group_levels (T : Ctx K mg) : ∃ fd, FunD K "levels" "Group.levels" (defArgs s_Group_levels) (defBody s_Group_levels) (defScope s_Group_levels) [] [] (He5.wf K (He.ga K "Group") "property" "levels") fd := T.says.def_ 45 (d := d_Group_levels) rfl
theorem Ctx.f_levels_of (T : Ctx K mg) : ∃ fd, FunD K "levels_of" "levels_of" (defArgs s_levels_of) (defBody s_levels_of) (defScope s_levels_of) [] [] (He.ga K "levels_of") fd := T.says.def_ 46 (d := d_levels_of) rfl
theorem Ctx.f_is_tenant (T : Ctx K mg) : ∃ fd, FunD K "is_tenant" "is_tenant" (defArgs s_is_tenant) (defBody s_is_tenant) (defScope s_is_tenant) [] [] (He.ga K "is_tenant") fd := T.says.def_ 47 (d := d_is_tenant) rfl
theorem Ctx.f_check_tenants (T : Ctx K mg) : ∃ fd, FunD K "check_tenants" "check_tenants" (defArgs s_check_tenants) (defBody s_check_tenants) (defScope s_check_tenants) [] [] (He.ga K "check_tenants") fd := T.says.def_ 48 (d := d_check_tenants) rfl
theorem Ctx.f_check_fit (T : Ctx K mg) : ∃ fd, FunD K "check_fit" "check_fit" (defArgs s_check_fit) (defBody s_check_fit) (defScope s_check_fit) [] [] (He.ga K "check_fit") fd := T.says.def_ 49 (d := d_check_fit) rfl
theorem Ctx.f_leaves_of (T : Ctx K mg) : ∃ fd, FunD K "leaves_of" "leaves_of" (defArgs s_leaves_of) (defBody s_leaves_of) (defScope s_leaves_of) [] [] (He.ga K "leaves_of") fd := T.says.def_ 50 (d := d_leaves_of) rfl
theorem Ctx.f_Setup_init (T : Ctx K mg) : ∃ fd, FunD K "__init__" "Setup.__init__" (defArgs s_Setup_init) (defBody s_Setup_init) (defScope s_Setup_init) [] [("sizes", .non), ("lending", .non), ("load", .int 0), ("write", .int 0), ("late", .bl false)] (He.ma K (He.ga K "Setup") "__init__") fd := T.says.def_ 51 (d := d_Setup_init) rfl
theorem Ctx.f_Setup_frames (T : Ctx K mg) : ∃ fd, FunD K "frames" "Setup.frames" (defArgs s_Setup_frames) (defBody s_Setup_frames) (defScope s_Setup_frames) [] [] (He5.wf K (He.ga K "Setup") "property" "frames") fd := T.says.def_ 52 (d := d_Setup_frames) rfl
theorem Ctx.f_Setup_sizes (T : Ctx K mg) : ∃ fd, FunD K "sizes" "Setup.sizes" (defArgs s_Setup_sizes) (defBody s_Setup_sizes) (defScope s_Setup_sizes) [] [] (He.ma K (He.ga K "Setup") "sizes") fd := T.says.def_ 53 (d := d_Setup_sizes) rfl
theorem Ctx.f_Setup_size (T : Ctx K mg) : ∃ fd, FunD K "size" "Setup.size" (defArgs s_Setup_size) (defBody s_Setup_size) (defScope s_Setup_size) [] [] (He.ma K (He.ga K "Setup") "size") fd := T.says.def_ 54 (d := d_Setup_size) rfl
theorem Ctx.f_Setup_leaves (T : Ctx K mg) : ∃ fd, FunD K "leaves" "Setup.leaves" (defArgs s_Setup_leaves) (defBody s_Setup_leaves) (defScope s_Setup_leaves) [] [] (He.ma K (He.ga K "Setup") "leaves") fd := T.says.def_ 55 (d := d_Setup_leaves) rfl
theorem Ctx.f_Setup_found (T : Ctx K mg) : ∃ fd, FunD K "found" "Setup.found" (defArgs s_Setup_found) (defBody s_Setup_found) (defScope s_Setup_found) [] [] (He.ma K (He.ga K "Setup") "found") fd := T.says.def_ 56 (d := d_Setup_found) rfl
theorem Ctx.f_check_setup (T : Ctx K mg) : ∃ fd, FunD K "check_setup" "check_setup" (defArgs s_check_setup) (defBody s_check_setup) (defScope s_check_setup) [] [] (He.ga K "check_setup") fd := T.says.def_ 57 (d := d_check_setup) rfl
theorem Ctx.f_check_trace (T : Ctx K mg) : ∃ fd, FunD K "check_trace" "check_trace" (defArgs s_check_trace) (defBody s_check_trace) (defScope s_check_trace) [] [] (He.ga K "check_trace") fd := T.says.def_ 58 (d := d_check_trace) rfl
theorem Ctx.f_Checker_init (T : Ctx K mg) : ∃ fd, FunD K "__init__" "Checker.__init__" (defArgs s_Checker_init) (defBody s_Checker_init) (defScope s_Checker_init) [] [] (He.ma K (He.ga K "Checker") "__init__") fd := T.says.def_ 59 (d := d_Checker_init) rfl
theorem Ctx.f_Checker_holders (T : Ctx K mg) : ∃ fd, FunD K "holders" "Checker.holders" (defArgs s_Checker_holders) (defBody s_Checker_holders) (defScope s_Checker_holders) [] [] (He.ma K (He.ga K "Checker") "holders") fd := T.says.def_ 60 (d := d_Checker_holders) rfl
theorem Ctx.f_Checker_paper (T : Ctx K mg) : ∃ fd, FunD K "paper" "Checker.paper" (defArgs s_Checker_paper) (defBody s_Checker_paper) (defScope s_Checker_paper) [] [] (He.ma K (He.ga K "Checker") "paper") fd := T.says.def_ 61 (d := d_Checker_paper) rfl
theorem Ctx.f_Checker_step (T : Ctx K mg) : ∃ fd, FunD K "step" "Checker.step" (defArgs s_Checker_step) (defBody s_Checker_step) (defScope s_Checker_step) [] [] (He.ma K (He.ga K "Checker") "step") fd := T.says.def_ 62 (d := d_Checker_step) rfl
theorem Ctx.f_check_outs (T : Ctx K mg) : ∃ fd, FunD K "check_outs" "check_outs" (defArgs s_check_outs) (defBody s_check_outs) (defScope s_check_outs) [] [] (He.ga K "check_outs") fd := T.says.def_ 63 (d := d_check_outs) rfl
theorem Ctx.f_check_paths (T : Ctx K mg) : ∃ fd, FunD K "check_paths" "check_paths" (defArgs s_check_paths) (defBody s_check_paths) (defScope s_check_paths) [] [] (He.ga K "check_paths") fd := T.says.def_ 64 (d := d_check_paths) rfl
theorem Ctx.f_check_run (T : Ctx K mg) : ∃ fd, FunD K "check_run" "check_run" (defArgs s_check_run) (defBody s_check_run) (defScope s_check_run) [] [] (He.ga K "check_run") fd := T.says.def_ 65 (d := d_check_run) rfl
theorem Ctx.f_papers_of (T : Ctx K mg) : ∃ fd, FunD K "papers_of" "papers_of" (defArgs s_papers_of) (defBody s_papers_of) (defScope s_papers_of) [] [] (He.ga K "papers_of") fd := T.says.def_ 66 (d := d_papers_of) rfl
theorem Ctx.f_l_hand (T : Ctx K mg) : ∃ fd, FunD K "_law_hand" "_law_hand" (defArgs s_l_hand) (defBody s_l_hand) (defScope s_l_hand) [] [] (He.ga K "_law_hand") fd := T.says.def_ 67 (d := d_l_hand) rfl
theorem Ctx.f_l_draw (T : Ctx K mg) : ∃ fd, FunD K "_law_draw" "_law_draw" (defArgs s_l_draw) (defBody s_l_draw) (defScope s_l_draw) [] [] (He.ga K "_law_draw") fd := T.says.def_ 68 (d := d_l_draw) rfl
theorem Ctx.f_l_trace (T : Ctx K mg) : ∃ fd, FunD K "_law_trace" "_law_trace" (defArgs s_l_trace) (defBody s_l_trace) (defScope s_l_trace) [] [] (He.ga K "_law_trace") fd := T.says.def_ 69 (d := d_l_trace) rfl
theorem Ctx.f_l_first (T : Ctx K mg) : ∃ fd, FunD K "_law_first" "_law_first" (defArgs s_l_first) (defBody s_l_first) (defScope s_l_first) [] [] (He.ga K "_law_first") fd := T.says.def_ 70 (d := d_l_first) rfl
theorem Ctx.f_l_turning (T : Ctx K mg) : ∃ fd, FunD K "_law_turning" "_law_turning" (defArgs s_l_turning) (defBody s_l_turning) (defScope s_l_turning) [] [] (He.ga K "_law_turning") fd := T.says.def_ 71 (d := d_l_turning) rfl
theorem Ctx.f_l_least (T : Ctx K mg) : ∃ fd, FunD K "_law_least" "_law_least" (defArgs s_l_least) (defBody s_l_least) (defScope s_l_least) [] [] (He.ga K "_law_least") fd := T.says.def_ 72 (d := d_l_least) rfl
theorem Ctx.f_l_generous (T : Ctx K mg) : ∃ fd, FunD K "_law_generous" "_law_generous" (defArgs s_l_generous) (defBody s_l_generous) (defScope s_l_generous) [] [] (He.ga K "_law_generous") fd := T.says.def_ 73 (d := d_l_generous) rfl
theorem Ctx.f_l_shy (T : Ctx K mg) : ∃ fd, FunD K "_law_shy" "_law_shy" (defArgs s_l_shy) (defBody s_l_shy) (defScope s_l_shy) [] [] (He.ga K "_law_shy") fd := T.says.def_ 74 (d := d_l_shy) rfl
theorem Ctx.f_l_wild (T : Ctx K mg) : ∃ fd, FunD K "_law_wild" "_law_wild" (defArgs s_l_wild) (defBody s_l_wild) (defScope s_l_wild) [] [] (He.ga K "_law_wild") fd := T.says.def_ 75 (d := d_l_wild) rfl
theorem Ctx.f_l_rule (T : Ctx K mg) : ∃ fd, FunD K "_law_rule" "_law_rule" (defArgs s_l_rule) (defBody s_l_rule) (defScope s_l_rule) [] [] (He.ga K "_law_rule") fd := T.says.def_ 76 (d := d_l_rule) rfl
theorem Ctx.f_l_tenants (T : Ctx K mg) : ∃ fd, FunD K "_law_tenants" "_law_tenants" (defArgs s_l_tenants) (defBody s_l_tenants) (defScope s_l_tenants) [] [] (He.ga K "_law_tenants") fd := T.says.def_ 77 (d := d_l_tenants) rfl
theorem Ctx.f_l_of (T : Ctx K mg) : ∃ fd, FunD K "_law_of" "_law_of" (defArgs s_l_of) (defBody s_l_of) (defScope s_l_of) [] [] (He.ga K "_law_of") fd := T.says.def_ 78 (d := d_l_of) rfl
theorem Ctx.f_l_paths (T : Ctx K mg) : ∃ fd, FunD K "_law_paths" "_law_paths" (defArgs s_l_paths) (defBody s_l_paths) (defScope s_l_paths) [] [] (He.ga K "_law_paths") fd := T.says.def_ 79 (d := d_l_paths) rfl
theorem Ctx.f_l_setup (T : Ctx K mg) : ∃ fd, FunD K "_law_setup" "_law_setup" (defArgs s_l_setup) (defBody s_l_setup) (defScope s_l_setup) [] [] (He.ga K "_law_setup") fd := T.says.def_ 80 (d := d_l_setup) rfl
theorem Ctx.f_l_some_outs (T : Ctx K mg) : ∃ fd, FunD K "_law_some_outs" "_law_some_outs" (defArgs s_l_some_outs) (defBody s_l_some_outs) (defScope s_l_some_outs) [] [] (He.ga K "_law_some_outs") fd := T.says.def_ 81 (d := d_l_some_outs) rfl
theorem Ctx.f_l_law (T : Ctx K mg) : ∃ fd, FunD K "law" "law" (defArgs s_l_law) (defBody s_l_law) (defScope s_l_law) [] [] (He.ga K "law") fd := T.says.def_ 82 (d := d_l_law) rfl
end
end N32
set_option Elab.async false
set_option linter.all false
set_option maxRecDepth 100000
set_option maxHeartbeats 0
namespace N32
open PySem PySem.Spec PyProof.Rows L2
/-! ### what is looked at behind the top -/
def refsF (g : Addr → Option Obj) (as : List Addr) : List Addr := as.flatMap fun a => match g a with
  | some o => He.refsD o
  | none => []
def bfsF (g : Addr → Option Obj) : Nat → List Addr → List Addr
  | 0, fr => fr
  | n + 1, fr => fr ++ bfsF g n (refsF g fr)
def kOf (g : Addr → Option Obj) : PySem.W.Frag := He.frG g (bfsF g 5 [mainGlobals])
def intN : List (Str × Int) := [("MOST_NUMBER", 1000000000), ("MOST_SIZE", 1000000), ("MOST_TICKS", 1000), ("MOST_LEVELS", 3), ("MOST_TENANTS", 8)]
def kindsN : List Str := ["KINDS"]
def strN : List (Str × Str) := [("LETTERS", "abcdefghijklmnopqrstuvwxyz"), ("DIGITS", "0123456789")]
def faG : List He.Fa := (gloN ++ kindsN).map He.Fa.glo ++ freeN.map He.Fa.free ++ intN.map (fun q => He.Fa.int q.1 q.2) ++ strN.map fun q => He.Fa.str q.1 q.2
def faC : List He.Fa := clsN.map He.Fa.cls ++ mkN.map He.Fa.mkr
def faN : List He.Fa := fldN.map fun p => He.Fa.noat p.1 p.2
def faM : List He.Fa := metN.map fun p => He.Fa.meth p.1 p.2
def faB (K : PySem.W.Frag) : Bool := (faG.all fun f => f.ok K) && ((faC.all fun f => f.ok K) && ((faN.all fun f => f.ok K) && faM.all fun f => f.ok K))
def fnB (K : PySem.W.Frag) (a : Addr) : Bool := match K.lookup a with
  | some o => decide (o.cls = .type "function")
  | none => false
def insB (K : PySem.W.Frag) (C : Addr) : Bool := He.eqO (PySem.W.findIn K (.ref C) "__class__") (some (some (.builtin "object.__class__"))) && (He.eqO (PySem.W.specialIn K (.builtin "object.__class__") "__get__") (some (some (.builtin "getset_descriptor.__get__"))) &&
  (decide (PySem.W.takesIn K (.builtin "object.__class__") = some true) && (decide (PySem.W.mroIn K C (.type "object") = some true) && decide (PySem.W.kitOne K (.ref C) (.ref C) = some true))))
def sclB (K : PySem.W.Frag) (C : Addr) : Bool := PySem.W.plainGet K C Str.empty && (PySem.W.isClsIn K C && (PySem.W.plainOver K C && He.eqO (PySem.W.findIn K (.ref C) "__setattr__") (some (some (.builtin "object.__setattr__")))))
def sltB (K : PySem.W.Frag) (C : Addr) (f : Str) (i : Nat) : Bool := He.eqO (PySem.W.findIn K (.ref C) f) (some (some (.ref (He.ma K C f)))) && (He.eqO (PySem.W.specialIn K (.ref (He.ma K C f)) "__get__") (some (some (.builtin "member_descriptor.__get__"))) &&
  (decide (PySem.W.takesIn K (.ref (He.ma K C f)) = some true) && (decide (PySem.W.typeIn K (.ref (He.ma K C f)) = some (.type "member_descriptor")) && (decide (PySem.W.slotIn K (He.ma K C f) C = some i) && decide (i < 1000)))))
def prpB (K : PySem.W.Frag) (C : Addr) (f : Str) : Bool := He.eqO (PySem.W.findIn K (.ref C) f) (some (some (.ref (He.ma K C f)))) && (He.eqO (PySem.W.specialIn K (.ref (He.ma K C f)) "__get__") (some (some (.builtin "property.__get__"))) &&
  (decide (PySem.W.takesIn K (.ref (He.ma K C f)) = some true) && (match PySem.W.recIn K (He.ma K C f) "property" with
    | some (.ref g :: _) => decide (g = He5.wf K C "property" f)
    | _ => false)))
def exB (K : PySem.W.Frag) : Bool := He.tupB K "KINDS" [.str "read", .str "write"] && ((ruleN.all fun x => fnB K (He.ga K x)) && ((insN.all fun x => insB K (He.ga K x)) && (decide (PySem.W.kitOne K (.type "function") (.ref (He.ga K "Group")) = some false) &&
  (sclB K (He.ga K "Row") && ((rowN.all fun p => sltB K (He.ga K "Row") p.1 p.2) && propN.all fun p => prpB K (He.ga K p.1) p.2)))))
section
variable {K : PySem.W.Frag} {h : Heap} {mg : Str → Option Value}
theorem b2 {a b : Bool} (h : (a && b) = true) : a = true ∧ b = true := Bool.and_eq_true_iff.mp h
theorem all_at {α β : Type} {l : List α} {f : α → β} {p : β → Bool} (h : ((l.map f).all p) = true) {x : α} (hx : x ∈ l) : p (f x) = true := List.all_eq_true.mp h _ (List.mem_map_of_mem hx)
theorem fnB_ok {a : Addr} (h : fnB K a = true) : ∃ o, K.lookup a = some o ∧ o.cls = .type "function" := by
  unfold fnB at h
  cases e : K.lookup a with
  | none => rw [e] at h; cases h
  | some o => rw [e] at h; exact ⟨o, rfl, of_decide_eq_true h⟩
theorem insB_ok {C : Addr} (c : Cls K C) (h : insB K C = true) : C8.InsC K C := by
  obtain ⟨h1, h⟩ := b2 h
  obtain ⟨h2, h⟩ := b2 h
  obtain ⟨h3, h⟩ := b2 h
  obtain ⟨h4, h5⟩ := b2 h
  exact ⟨c, He.eqO_ok h1, He.eqO_ok h2, of_decide_eq_true h3, of_decide_eq_true h4, of_decide_eq_true h5⟩
theorem sclB_ok {C : Addr} (h : sclB K C = true) : SlX.SCls K C := by
  obtain ⟨h1, h⟩ := b2 h
  obtain ⟨h2, h⟩ := b2 h
  obtain ⟨h3, h4⟩ := b2 h
  exact ⟨h1, h2, h3, He.eqO_ok h4⟩
theorem sltB_ok {C : Addr} {f : Str} {i : Nat} (h : sltB K C f i = true) : SlX.Slot1 K C f (He.ma K C f) i := by
  obtain ⟨h1, h⟩ := b2 h
  obtain ⟨h2, h⟩ := b2 h
  obtain ⟨h3, h⟩ := b2 h
  obtain ⟨h4, h⟩ := b2 h
  obtain ⟨h5, h6⟩ := b2 h
  exact ⟨He.eqO_ok h1, He.eqO_ok h2, of_decide_eq_true h3, of_decide_eq_true h4, of_decide_eq_true h5, of_decide_eq_true h6⟩
theorem prpB_ok {C : Addr} {f : Str} (h : prpB K C f = true) : PropOf K C f (He.ma K C f) (He5.wf K C "property" f) := by
  obtain ⟨h1, h⟩ := b2 h
  obtain ⟨h2, h⟩ := b2 h
  obtain ⟨h3, h4⟩ := b2 h
  refine ⟨He.eqO_ok h1, He.eqO_ok h2, of_decide_eq_true h3, ?_⟩
  cases e : PySem.W.recIn K (He.ma K C f) "property" with
  | none => rw [e] at h4; cases h4
  | some l =>
    rw [e] at h4
    cases l with
    | nil => cases h4
    | cons v r =>
      cases v with
      | ref g => exact ⟨r, by rw [of_decide_eq_true h4]⟩
      | _ => cases h4
theorem ctx_of (X : K.In h) (G : h.Ns mainGlobals mg) (hs : He5.SaysA [] fnL K) (hf : faB K = true) (hx : exB K = true) : Ctx K mg := by
  obtain ⟨f1, hf⟩ := b2 hf
  obtain ⟨f2, hf⟩ := b2 hf
  obtain ⟨f3, f4⟩ := b2 hf
  obtain ⟨x1, hx⟩ := b2 hx
  obtain ⟨x2, hx⟩ := b2 hx
  obtain ⟨x3, hx⟩ := b2 hx
  obtain ⟨x4, hx⟩ := b2 hx
  obtain ⟨x5, hx⟩ := b2 hx
  obtain ⟨x6, x7⟩ := b2 hx
  unfold faG at f1
  rw [List.all_append, List.all_append, List.all_append] at f1
  obtain ⟨f1, g4⟩ := b2 f1
  obtain ⟨f1, g3⟩ := b2 f1
  obtain ⟨g1, g2⟩ := b2 f1
  unfold faC at f2
  rw [List.all_append] at f2
  obtain ⟨c1, c2⟩ := b2 f2
  have glo : ∀ x ∈ gloN ++ kindsN, mg x = some (.ref (He.ga K x)) := fun x hx => He.glo_ok X G (all_at g1 hx)
  have cls : ∀ x ∈ clsN, Cls K (He.ga K x) := fun x hx => He.cls_ok (all_at c1 hx)
  have int_ : ∀ q ∈ intN, ∃ t, mg q.1 = some (.int q.2 t) := fun q hq => He.int_ok X G (all_at g3 hq)
  have str_ : ∀ q ∈ strN, ∃ t, mg q.1 = some (.str q.2 t) := fun q hq => He.str_ok X G (all_at g4 hq)
  exact { says := hs
          glo := fun x hx => glo x (List.mem_append_left _ hx)
          free := fun x hx => He.free_ok X G (all_at g2 hx)
          mostNumber := int_ ("MOST_NUMBER", 1000000000) (by decide)
          mostSize := int_ ("MOST_SIZE", 1000000) (by decide)
          mostTicks := int_ ("MOST_TICKS", 1000) (by decide)
          mostLevels := int_ ("MOST_LEVELS", 3) (by decide)
          mostTenants := int_ ("MOST_TENANTS", 8) (by decide)
          letters := str_ ("LETTERS", "abcdefghijklmnopqrstuvwxyz") (by decide)
          digits := str_ ("DIGITS", "0123456789") (by decide)
          kindsG := glo "KINDS" (List.mem_append_right _ List.mem_cons_self)
          kinds := fun H => He.tupB_ok x1 H
          cls := cls
          mks := fun x hx => He.mkr_ok (all_at c2 hx)
          noat := fun p hp => He.noat_ok (all_at f3 hp)
          met := fun p hp => He.meth_ok (all_at f4 hp)
          ruleT := fun r hr => by
            have : ∀ x ∈ ruleN, fnB K (He.ga K x) = true := fun x hx => List.all_eq_true.mp x2 x hx
            refine fnB_ok (this _ ?_)
            show ruleN.getD r "_law_first" ∈ ruleN
            match r, hr with
            | 0, _ => decide
            | 1, _ => decide
            | 2, _ => decide
            | 3, _ => decide
            | 4, _ => decide
            | 5, _ => decide
          insC := fun x hx => insB_ok (cls x (by
            have : ∀ y ∈ insN, y ∈ clsN := by decide
            exact this x hx)) (List.all_eq_true.mp x3 x hx)
          fnG := of_decide_eq_true x4
          rowC := sclB_ok x5
          rowS := fun p hp => sltB_ok (List.all_eq_true.mp x6 p hp)
          prop := fun p hp => prpB_ok (List.all_eq_true.mp x7 p hp) }
end
end N32
set_option Elab.async false
set_option linter.all false
set_option maxRecDepth 100000
set_option maxHeartbeats 0
namespace N32
open PySem PySem.W PySem.Calls PyProof.Rows HandSHeadRun
abbrev RW : PySem.W.OpenRow := PySem.W.OpenLaw.row PySem.Challenge.rw_noworsecache_k32_whole_any_lending_keeps
def nm0 : List PySem.Str := ["_wall", "__name__", "PoolError", "InvalidPage", "InvalidName", "InvalidNumber", "InvalidKind", "InvalidRule", "InvalidSizes", "InvalidTrace", "InvalidTenants", "InvalidSetup", "UnknownTenant", "TooLarge", "NotHeld", "InvalidOuts", "LETTERS", "DIGITS", "MOST_NUMBER", "MOST_SIZE", "MOST_TICKS", "MOST_LEVELS", "KINDS", "is_integer", "is_between", "is_text_of", "is_page", "is_name", "is_path", "check_page"]
def nm1 : List PySem.Str := ["check_path", "check_number", "check_kind", "is_rule", "check_rule", "check_sizes", "size_in", "since_of", "last_of", "taken", "longest_unused", "is_answer", "answer_of", "Move", "Pin", "Row", "Alone", "is_request", "check_requests", "is_below", "Trace", "merged", "moment_of", "MOST_TENANTS", "lending_of", "Group", "levels_of", "is_tenant", "check_tenants", "check_fit"]
def nm2 : List PySem.Str := ["leaves_of", "Setup", "check_setup", "check_trace", "Checker", "check_outs", "check_paths", "check_run", "papers_of", "_law_hand", "_law_draw", "_law_trace", "_law_first", "_law_turning", "_law_least", "_law_generous", "_law_shy", "_law_wild", "_law_rule", "_law_tenants", "_law_of", "_law_paths", "_law_setup", "_law_some_outs"]
def names : List PySem.Str := nm0 ++ nm1 ++ nm2
theorem run_a (w : World) (os : OsState) : (endF (stepQ (denQ tabQ) RW.prog w) 12000 RW.prog w os).map (fun s => (looksF RW.prog (boot_heap w.params) s.abs, seenQ (view RW.prog [92]) names (importedModules RW.prog.main.body) (fun s => xlAt (view RW.prog [92]) [] s && recOk RW.toRowW.records s) s.abs)) = some (true, openGood (view RW.prog [92]) names) := by kernel_rfl
theorem run_b1 (w : World) (os : OsState) : (endF (stepQ (denQ tabQ) RW.prog w) 12000 RW.prog w os).map (fun s => He5.obsA [] (fn0 ++ fn1) (kOf (getT s))) = some (He5.valA (fn0 ++ fn1)) := by kernel_rfl
theorem run_b2 (w : World) (os : OsState) : (endF (stepQ (denQ tabQ) RW.prog w) 12000 RW.prog w os).map (fun s => He5.obsA [] (fn2 ++ fn3) (kOf (getT s))) = some (He5.valA (fn2 ++ fn3)) := by kernel_rfl
theorem run_c (w : World) (os : OsState) : (endF (stepQ (denQ tabQ) RW.prog w) 12000 RW.prog w os).map (fun s => faB (kOf (getT s))) = some true := by kernel_rfl
theorem run_d (w : World) (os : OsState) : (endF (stepQ (denQ tabQ) RW.prog w) 12000 RW.prog w os).map (fun s => exB (kOf (getT s))) = some true := by kernel_rfl
end N32
set_option Elab.async false
set_option linter.all false
set_option maxRecDepth 100000
set_option maxHeartbeats 4000000
/-! Rules that the layer lacks: the small ones. -/
namespace N32
open PySem PySem.Spec PyProof.Rows L2
/-! ### enumerate(l, start = 1) -/
def Ite1 (K : PySem.W.Frag) (a : Addr) : It :=
  ⟨fun i H => ∃ (xs : List V) (x : V), SqL K H a xs ∧ xs[i]? = some x,
    fun i H v H' => ∃ T x, v = .ref T ∧ H T = none ∧ H' = upd H T (.tup [.int ((i : Int) + 1), x]) ∧ (∀ xs, SqL K H a xs → xs[i]? = some x),
    fun i H => ∃ xs : List V, SqL K H a xs ∧ xs.length ≤ i⟩
theorem draws_end {prog : Program} {w : World} {A : Around} {it l : Addr} {items : Array Value} {i : Nat} (hh : A.handled = none) (hx : items[i]? = none) :
    Draws prog w A it [it, l] i (fun _ _ => False) (fun j h => j = i ∧ h.IsListIter it l i ∧ h.IsList l items) where
  live := fun _ _ st => let ⟨_, ⟨o, ho, _⟩, _⟩ := st; ⟨o, ho⟩
  frame := fun _ _ _ st hk => ⟨st.1, st.2.1.at fun o e => hk it (by simp) o e, st.2.2.at fun o e => hk l (by simp) o e⟩
  item := fun j s Q E hj st _ => absurd st.1 (Nat.ne_of_lt hj)
  done := fun s Q E st hE => wpAny_nextOf_list_end hh st.2.1 st.2.2 hx hE
theorem two_mem {b e it : Addr} (hb : b ∈ [e, it]) : b = e ∨ b = it := by simpa using hb
theorem turn_from1 {P : Program} {w : World} {K : PySem.W.Frag} {elts : List Expr} {kk : Nat} {tpos : Pos} (a e it : Addr) :
    Turn P w K (.Tuple elts kk tpos) (Ite1 K a) [e, it] e (fun i h => (∃ old, IsEnum h e it ((i : Int) + 1) old) ∧ h.IsListIter it a i ∧ e ≠ it) where
  mem := List.mem_cons_self
  obj := fun i h st b hb => by
    obtain ⟨⟨_, he⟩, ⟨o, ho, _, hd⟩, _⟩ := st
    rcases two_mem hb with rfl | rfl
    · exact ⟨_, he, fun v q => nomatch q⟩
    · exact ⟨o, ho, fun v q => by rw [hd] at q; cases q⟩
  keep := fun i h h' st k => ⟨st.1.imp fun _ he => k e (by simp) _ he, st.2.1.at fun o q => k it (by simp) o q, st.2.2⟩
  item := by
    rintro X rfl rfl rfl hc i pins s σ H E I hf ⟨⟨old, he⟩, hit, hne⟩ ⟨xs, x, hq, hx⟩
    obtain ⟨its, rv, pl, _⟩ := I.list hq
    obtain ⟨u, hu, ru⟩ := rv.get hx
    have hel := Heap.lt_size he
    have hil : it < s.heap.objs.size := let ⟨_, q, _⟩ := hit; Heap.lt_size q
    have hli : i < its.toArray.size := by
      have := (List.getElem?_eq_some_iff.mp hu).1
      simpa using this
    have hla : a ≠ it := fun z => by
      obtain ⟨ol, hol, hcl, _⟩ := pl.isList
      obtain ⟨oi, hoi, hci, _⟩ := hit
      rw [z, hoi] at hol
      cases hol
      rw [hci] at hcl
      exact absurd (Value.type.inj hcl) (by decide)
    have hea : e ∉ [it, a] := fun z => by
      rcases List.mem_cons.mp z with z | z
      · exact hne z
      · obtain ⟨ol, hol, hcl, _⟩ := pl.isList
        rw [← List.mem_singleton.mp z, show s.heap.get? e = _ from he] at hol
        cases hol
        exact absurd (Value.type.inj hcl) (by decide)
    refine PySem.wpAny_pyNext_enum_itemC (Draws.list (prog := X.prog) (w := X.w) (A := X.A.in1) (by simpa using I.ok.hd hc) it a hla its.toArray) he ⟨hit, pl.isList⟩ hli hne hea fun x1 h1 tk hx1 ho hit1 hT _ hk => ⟨_, rfl, ?_⟩
    obtain rfl : x1 = u := by
      have e1 : its.toArray[i]? = some x1 := hx1
      have e2 : its[i]? = some x1 := by simpa using e1
      rw [hu] at e2
      exact (Option.some.inj e2).symm
    refine wpAny_letOwnedTupleGo_enum (s := { s with heap := h1, toks := tk + 1 }) ho fun h2 he2 sb => ?_
    have hT2 := (sb.2 _ (Nat.ne_of_gt hel)).trans hT
    have hnew : ObjOk X.prog X.w (upd H s.heap.objs.size (.tup [.int ((i : Int) + 1), x])) h2 s.heap.objs.size (.tup [.int ((i : Int) + 1), x]) :=
      ⟨(by show 2 ≤ sizeLine; decide), [.int ((i : Int) + 1) tk, x1], .cons ⟨_, rfl⟩ (.cons ru .nil), ⟨_, hT2, rfl, _, rfl⟩⟩
    have hI : Inv X pins σ (upd H s.heap.objs.size (.tup [.int ((i : Int) + 1), x])) { s with heap := h2, toks := tk + 1 } := by
      refine I.turnedNew (ch := [e, it]) (fun b ob hb q => ?_) hf (Nat.le_refl _) hnew
      have hbe : b ≠ e := fun z => hb (z ▸ List.mem_cons_self)
      have hbi : b ≠ it := fun z => hb (z ▸ List.mem_cons_of_mem _ List.mem_cons_self)
      exact (sb.2 b hbe).trans (hk b ob hbe hbi q)
    refine ⟨.ref s.heap.objs.size, _, hI, rfl, ⟨_, x, rfl, I.hok.fresh (Nat.le_refl _), rfl, fun ys hy => by rw [I.list_inj hy hq]; exact hx⟩, ⟨⟨x1, ?_⟩, hit1.1.at fun o q => (sb.2 it hne.symm).trans q, hne⟩, fun b hb => ?_⟩
    · have e1 : ((i + 1 : Nat) : Int) + 1 = (i : Int) + 1 + 1 := by omega
      rw [e1]
      exact he2
    · have hlt : b < s.heap.objs.size := by rcases two_mem hb with rfl | rfl <;> assumption
      rw [upd_ne (Nat.ne_of_lt hlt)]
      exact (hf b hb).1
  done := by
    rintro X rfl rfl rfl hc i pins s σ H E I hf ⟨⟨old, he⟩, hit, _⟩ ⟨xs, hq, hx⟩
    obtain ⟨its, rv, pl, _⟩ := I.list hq
    obtain ⟨f0, f1, f2, f3, f4, f5⟩ := hf it (by simp)
    have hl := rv.length
    exact wpAny_pyNext_enum_endD (draws_end (prog := X.prog) (w := X.w) (A := X.A.in1) (l := a) (items := its.toArray) (by simpa using I.ok.hd hc) (by simp; omega)) he ⟨rfl, hit, pl.isList⟩ fun h1 eb => ⟨rfl, I.turned (t' := s.toks) eb f0 f1 f3 f4 f5⟩
  self := fun A i s Q E st h => wpAny_pyIter_enum st.1.choose_spec h
def iEnumS (K : PySem.W.Frag) (ta : TA) (tk : TA) : TI := fun σ H R => ta σ H fun vs H1 => tk σ H1 fun zs H2 => ∃ a xs, vs = [.ref a] ∧ zs = [.int 1] ∧ SqL K H2 a xs ∧ R (Ite1 K a) H2
theorem pi_enumS {X : Cx} {e : Expr} {kw : List Keyword} {ta tk : TA} {p pos tpos : Pos} {elts : List Expr} {kk : Nat} (hg : Gl X "enumerate") (hm : X.mg "enumerate" = none) (ha : PA X [e] ta) (hk : PK X kw tk)
    (he : backTo pos (starEach [e] X.env) = (false, eval e X.env) :: backTo pos (starEach [] X.env) := by rfl) (hpl : ((backTo pos (starEach [e] X.env)).any (·.1) || (backToKw pos (keywordEach kw X.env)).any (·.1.isNone)) = false := by rfl)
    (hall : (backToKw pos (keywordEach kw X.env)).all (·.1.isSome) = true := by rfl) (hks : (backToKw pos (keywordEach kw X.env)).filterMap (·.1) = [Str.ofString "start"] := by rfl) :
    PI X (.Tuple elts kk tpos) (.Call (.Name "enumerate" p) [e] kw pos) (iEnumS X.K ta tk) := by
  refine ⟨fun pins s σ H R I h => ?_⟩
  refine wpAny_Call_Name_kw (ld_blt I hg hm boot_enumerate ?_)
  refine PySem.W.callWith_of (P := fun _ => True) hpl (fun h _ => ⟨.machine, .inr (.inl rfl), PySem.W.Looks.of_pure rfl⟩) ?_
  have hA := ha.run pos pins s σ H _ I h
  rw [he] at hA ⊢
  refine PyProof.Rows.evalArgs_kwB hall (thn hA fun us s1 ⟨vs, H1, I1, r1, q1⟩ => thn (hk.run pos pins s1 σ H1 _ I1 q1) fun ws s2 ⟨zs, H2, I2, r2, q2⟩ => ⟨trivial, ?_⟩)
  rw [hks]
  obtain ⟨a, xs, rfl, rfl, hq, q⟩ := q2
  obtain rfl := Vals.ref1 r1
  obtain ⟨w1, rfl, t1, rfl⟩ := vals1 r2
  obtain ⟨its, rv, pl, hz⟩ := I2.list hq
  refine enum_begins_start (begins_list a its.toArray) pl.isList (by decide) (by decide) fun h' hE hI hsz hkp => wpAny_pyIter_enum hE ?_
  have I3 : Inv X pins σ H2 { s2 with heap := h' } := I2.kept (t' := s2.toks) hkp
  refine ⟨s2.heap.objs.size + 1, [s2.heap.objs.size + 1, s2.heap.objs.size], _, _, H2, rfl, I3, turn_from1 a (s2.heap.objs.size + 1) s2.heap.objs.size, ⟨⟨.none, hE⟩, ⟨_, hI, rfl, rfl⟩, Nat.succ_ne_self _⟩, fun b hb => ?_, q⟩
  have hle : s2.heap.objs.size ≤ b := by rcases two_mem hb with rfl | rfl <;> omega
  exact I2.fpOk hle (I2.hok.fresh hle)
end N32
set_option Elab.async false
set_option linter.all false
set_option maxRecDepth 100000
set_option maxHeartbeats 4000000
namespace N32
open PySem
/-! ### f.__class__ of a def of the module -/
theorem slot_fn_ga : Slot "function" "__getattribute__" "object.__getattribute__" :=
  .of (owner := "object") (n := "__getattribute__") (by rw [typeLookup_type, builtinLookup_eq_fast]; kernel_rfl) (by decide +kernel) (by decide +kernel) (by decide +kernel)
    (by first | exact .inl (by decide +kernel) | exact .inr (by decide +kernel)) (by rw [isSubtype_type]; kernel_rfl)
theorem lk_fn_class : typeLookup (.type "function") "__class__" = pure (some (.builtin "object.__class__")) := by rw [typeLookup_type, builtinLookup_eq_fast]; kernel_rfl
theorem sub_fn_owner : isSubtype (.type "function") (.type (".".intercalate ("object.__class__".cutAt '.').dropLast)) = pure true := by
  rw [F.owner_object_class, isSubtype_type]
  kernel_rfl
section
variable {prog : Program} {w : World} {A : Around} {E : Value → Shared → Prop} {h : Heap} {g : Array GenState} {d : Drawn} {t : Nat} {os : OsState} {a : Addr} {o : Obj}
theorem fn_getset {R : Result → Shared → Prop} (hT : (⟨h, g, d, t, os⟩ : Shared).TypeIs (.ref a) "function") (hq : R (.ok (.ret (.type "function"))) ⟨h, g, d, t, os⟩) :
    codeAny (model prog w) A (.call (.builtin "getset_descriptor.__get__") ⟨[.builtin "object.__class__", .ref a, .type "function"], []⟩) R ⟨h, g, d, t, os⟩ := by
  have ho := sub_fn_owner
  have hD : (⟨h, g, d, t, os⟩ : Shared).TypeIs (.builtin "object.__class__") "getset_descriptor" := F.typeOf_object_class
  refine codeAny_call_builtin F.slot_gs_get.plain F.entry_gs_get (F.slot_gs_get.check _ _ _ _ _ _ _ _ hD (F.args_gs_get _ _ _) ?_)
  repeat (any_goals (first | assumption | wp_step))
  exact ⟨Code.quiet_builtin _ (by decide +kernel), codeAny_builtin F.entry_object_class (by repeat (any_goals (first | assumption | wp_step)))⟩
theorem fn_generic {tk : Tok} {Q : Fin → Shared → Prop} (hT : (⟨h, g, d, t, os⟩ : Shared).TypeIs (.ref a) "function") (hq : Q (.done (.ret (.type "function"))) ⟨h, g, d, t, os⟩) :
    wpAny (model prog w) A (Builtin.«object.__getattribute__» ⟨[.ref a, .str "__class__" tk], []⟩) Q E ⟨h, g, d, t, os⟩ := by
  have hD : (⟨h, g, d, t, os⟩ : Shared).TypeIs (.builtin "object.__class__") "getset_descriptor" := F.typeOf_object_class
  have k1 := lk_fn_class
  have k2 := F.typeOf_object_class
  have k3 := F.slot_gs_get.lookup
  have k4 := F.slot_gs_set.lookup
  repeat (any_goals (first | assumption | wp_step))
  refine fn_getset hT ?_
  repeat (any_goals (first | assumption | wp_step))
theorem fn_by {tk : Tok} {Q : Value → Shared → Prop} (hT : (⟨h, g, d, t, os⟩ : Shared).TypeIs (.ref a) "function") (hq : Q (.type "function") ⟨h, g, d, t, os⟩) : wpAny (model prog w) A (getAttrBy (.ref a) (.str "__class__" tk) false) Q E ⟨h, g, d, t, os⟩ := by
  have k1 := slot_fn_ga.lookup
  have k2 := slot_fn_ga.bind (.ref a)
  repeat (any_goals (first | assumption | wp_step))
  refine codeAny_call_builtin slot_fn_ga.plain F.entry_object_getattribute (slot_fn_ga.check _ _ _ _ _ _ _ _ hT (F.args_object_getattribute_2 _ _) (fn_generic hT ?_))
  repeat (any_goals (first | assumption | wp_step))
theorem fn_class {Q : Option Value → Shared → Prop} (hT : (⟨h, g, d, t, os⟩ : Shared).TypeIs (.ref a) "function") (hq : Q (some (.type "function")) ⟨h, g, d, t + 1, os⟩) : wpAny (model prog w) A (getAttr? (.ref a) "__class__") Q E ⟨h, g, d, t, os⟩ := by
  have hT2 : (⟨h, g, d, t + 1, os⟩ : Shared).TypeIs (.ref a) "function" := hT
  unfold getAttr? getAttrBy?
  repeat (any_goals (first | assumption | with_reducible apply fn_by hT2 | with_reducible apply fn_by hT | wp_step))
end
theorem kit_fn {K : PySem.W.Frag} {a : Addr} : PySem.W.KitX K (.ref a) (.type "function") (PySem.W.KitAt a "function") := PySem.W.kitx_of PySem.W.kitAt_ty (fun {_ _ _ _ _ s} p k => by
  obtain ⟨h, g, d, t, os⟩ := s
  obtain ⟨o, h1, h2⟩ := p
  exact fn_class (show (⟨h, g, d, t, os⟩ : Shared).TypeIs (.ref a) "function" from ⟨o, h1, h2⟩) k)
end N32
set_option Elab.async false
set_option linter.all false
set_option maxRecDepth 100000
set_option maxHeartbeats 4000000
namespace PySem.SeqAt
open PySem
section
variable {prog : Program} {w : World} {A : Around} {E : Value → Shared → Prop} {s : Shared} {l b : Addr} {items items2 : Array Value} {n n2 : Nat} {dd dd2 : Option Addr} {sl sl2 : Array (Option Value)} {Q : Value → Shared → Prop}
theorem list_same_at (hl : s.heap.get? l = some { cls := .type "list", dict := dd, data := .seq items n, slots := sl }) (hb : s.heap.get? b = some { cls := .type "list", dict := dd2, data := .seq items2 n2, slots := sl2 }) (hz : items.size = items2.size) (hu : A.units < cLine)
    (h : Q (.bool ((List.range items.size).all fun _ => true)) s) (he : ∀ j (h1 : j < items.size) (h2 : j < items2.size), EqAt A.in1 s items[j] items2[j] true) : wpAny (model prog w) A (richCompare .Eq (.ref l) (.ref b)) Q E s := by
  have tl : s.TypeIs (.ref l) "list" := ⟨_, hl, rfl⟩
  exact wpAny_richCompare_same_room (op := .Eq) tl ⟨_, hb, rfl⟩ F.slot_list_eq (call_meets F.slot_list_eq tl F.entry_list_eq (F.args_list_eq_2 _ _) (list_eqAt l b items items2 n n2 dd dd2 sl sl2 hz fun _ => true) ⟨hl, hb, he, (fun x => nomatch x), h⟩) hu
theorem list_other_at (hl : s.heap.get? l = some { cls := .type "list", dict := dd, data := .seq items n, slots := sl }) (hb : s.heap.get? b = some { cls := .type "list", dict := dd2, data := .seq items2 n2, slots := sl2 }) (hz : (items.size != items2.size) = true) (hu : A.units < cLine)
    (h : Q (.bool false) s) : wpAny (model prog w) A (richCompare .Eq (.ref l) (.ref b)) Q E s := by
  have tl : s.TypeIs (.ref l) "list" := ⟨_, hl, rfl⟩
  exact wpAny_richCompare_same_room (op := .Eq) tl ⟨_, hb, rfl⟩ F.slot_list_eq (call_meets F.slot_list_eq tl F.entry_list_eq (F.args_list_eq_2 _ _) (list_eq_lengthsAt l b items items2 n n2 dd dd2 sl sl2 hz) ⟨hl, hb, (fun x => nomatch x), h⟩) hu
end
end PySem.SeqAt
namespace N32
open PySem PySem.Spec PyProof.Rows L2
section
variable {X : Cx}
/-! ### own dunders behind len and in -/
/-- a def called where the built-in stands one deeper -/
theorem run_at {A : Around} {k : Nat} {f : Addr} {fd : FuncData} {ps : List Str} {sp : Sp} {ds : List Value} {dvs : List V} {pins : List (Addr × Obj)} {σ : L2.St} {H : Hp} {s : Shared} {Q : VK} {us : List Value} {vs : List V}
    (F : FnOk X.prog X.w X.K X.mg X.base C8.CX0 k f fd ps sp) (hr : Room k A) (he : Env0 X.prog X.w X.K X.mg X.base A X.stack s H) (hb : Binds X.K fd ps ds) (hd : Vals dvs ds) (I : Inv X pins σ H s) (r : Vals vs us) (h : sp (vs ++ dvs) H Q C8.E0) :
    wpAny (model X.prog X.w) A (call (.ref f) us) (EP X pins σ Q) X.xe s := by
  have r2 : Vals (vs ++ dvs) (us ++ ds) := r.append hd
  have hl : (us ++ ds).length = ps.length := r2.length.symm.trans (F.len _ _ _ _ h)
  refine wpAny_call (codeAny_mono (F.run A X.stack s H ⟨us, []⟩ (us ++ ds) (vs ++ dvs) Q C8.E0 hr he (hb s us I.kIn hl) r2 h) ?_)
  rintro (e | fl) s' hq
  · exact C8.pass0 (E := C8.E0) pins σ H s e s' I hq
  · cases fl <;> first | exact I.after hq | exact hq.elim
theorem call_len_own {C : Addr} {k j : Nat} {sp : Sp} (c : C8.Met X.prog X.w X.K X.mg X.base k C "__len__" sp []) (hr : Room j X.A) (hk : k + 1 ≤ j) :
    CallR X (.builtin "len") (fun xs H Q => ∃ a dx fs, xs = [.ref a] ∧ H a = some (.ins C dx fs) ∧ sp [.ref a] H (fun v H' => ∃ n : Nat, v = .int n ∧ n ≤ sizeLine ∧ Q (.int n) H') C8.E0) := by
  rintro pins s σ H xs us Q I r ⟨a, dx, fs, rfl, ha, hs⟩
  obtain rfl := Vals.ref1 r
  obtain ⟨f, fd, ps, ds, cl, me, F, b, d⟩ := c.ex
  cases d
  obtain ⟨mA, O, _⟩ := ins_get I.hok ha
  obtain ⟨od, J, _⟩ := O.look
  obtain ⟨m, hF⟩ := I.fr
  refine PySem.W.len_K hF I.ok.mod.kin J me.at_ me.fn ?_
  refine wpAny_mono (run_at (vs := [.ref a]) F ((hr.mono hk).in1) I.env0.in1 b .nil I r hs) (fun v s' hq => ?_) fun _ _ z => z
  obtain ⟨x, H', I', rx, n, rfl, hn, hQ⟩ := hq
  obtain ⟨t, rfl⟩ := rx
  have hz : (sizeLine : Int) < 2 ^ 63 := by decide
  exact ⟨⟨by omega, by omega⟩, .int n, H', I'.tok _, ⟨_, rfl⟩, hQ⟩
theorem op_in_own {C : Addr} {k j : Nat} {sp : Sp} (c : C8.Met X.prog X.w X.K X.mg X.base k C "__contains__" sp []) (hr : Room j X.A) (hk : k + 1 ≤ j) :
    OpR X (compareOp .In) (fun x y H Q => ∃ a dx fs, y = .ref a ∧ H a = some (.ins C dx fs) ∧ sp [.ref a, x] H (fun v H' => ∃ b, v = .bl b ∧ Q (.bl b) H') C8.E0) := by
  rintro pins s σ H x y v u Q I rx ry ⟨a, dx, fs, rfl, ha, hs⟩
  obtain rfl : u = .ref a := ry
  obtain ⟨f, fd, ps, ds, cl, me, F, b, d⟩ := c.ex
  cases d
  obtain ⟨mA, O, _⟩ := ins_get I.hok ha
  obtain ⟨od, J, _⟩ := O.look
  obtain ⟨m, hF⟩ := I.fr
  refine PySem.W.in_K hF I.ok.mod.kin J me.at_ me.fn ?_
  refine wpAny_mono (run_at (vs := [.ref a, x]) F (hr.mono (by omega)) I.env0 b .nil I (.cons rfl (.cons rx .nil)) hs) (fun w s' hq => ?_) fun _ _ z => z
  obtain ⟨z, H', I', rz, bb, rfl, hQ⟩ := hq
  obtain rfl : w = .bool bb := rz
  exact wpAny_truthy_bool ⟨.bl bb, H', I', rfl, hQ⟩
/-! ### isinstance, the value also a def of the module -/
inductive TyF (K : PySem.W.Frag) (H : Hp) : V → Value → Prop where
  | x {v : V} {t : Value} (h : TyX K H v t) : TyF K H v t
  | fn {f : Addr} {o : Obj} (e : K.lookup f = some o) (c : o.cls = .type "function") : TyF K H (.ref f) (.type "function")
end
section
variable {X : Cx}
theorem kit_ofF {pins : List (Addr × Obj)} {σ : L2.St} {H : Hp} {s : Shared} {x : V} {u t : Value} (I : Inv X pins σ H s) (rx : RelV x u) (ty : TyF X.K H x t) : ∃ P : Heap → Prop, PySem.W.KitX X.K u t P ∧ P s.heap ∧ u ≠ .builtin "__main__.__loader__#opaque" := by
  cases ty with
  | x h => exact kit_of I rx h
  | fn e c =>
    obtain rfl : u = .ref _ := rx
    exact ⟨_, kit_fn, ⟨_, I.kIn _ _ e, c⟩, fun z => nomatch z⟩
def rIsiF (K : PySem.W.Frag) : List V → Hp → VK → Prop := fun xs H Q => ∃ (x c : V) (t u : Value) (b : Bool), xs = [x, c] ∧ ClsV c u ∧ TyF K H x t ∧ PySem.W.kitOne K t u = some b ∧ Q (.bl b) H
def rIsiTF (K : PySem.W.Frag) : List V → Hp → VK → Prop := fun xs H Q => ∃ (x : V) (tp : Addr) (cs : List V) (t : Value) (us : List Value) (b : Bool), xs = [x, .ref tp] ∧ H tp = some (.tup cs) ∧ Paired ClsV cs us ∧ TyF K H x t ∧ PySem.W.kitAny K t us = some b ∧ Q (.bl b) H
theorem call_isiF {K : PySem.W.Frag} (hK : X.K = K := by rfl) : CallR X (.builtin "isinstance") (rIsiF K) := by
  subst hK
  rintro pins s σ H xs us Q I r ⟨x, c, t, u, b, rfl, hc, ty, e, q⟩
  obtain ⟨u1, u2, rfl, r1, r2⟩ := vals2 r
  obtain rfl := hc.eq r2
  obtain ⟨P, Z, p, hx⟩ := kit_ofF I r1 ty
  exact PySem.W.kia_one Z I.kIn p e hx fun tk => ⟨.bl b, H, I.tok tk, rfl, q⟩
theorem call_isiTF {K : PySem.W.Frag} (hK : X.K = K := by rfl) : CallR X (.builtin "isinstance") (rIsiTF K) := by
  subst hK
  rintro pins s σ H xs us Q I r ⟨x, tp, cs, t, ws, b, rfl, hT, hc, ty, e, q⟩
  obtain ⟨u1, u2, rfl, r1, r2⟩ := vals2 r
  obtain rfl : u2 = .ref tp := r2
  obtain ⟨P, Z, p, hx⟩ := kit_ofF I r1 ty
  obtain ⟨_, its, rv, ⟨oc, od, dt, sl⟩, h1, h2, n, h3⟩ := (show ObjOk X.prog X.w H s.heap tp (.tup cs) from I.hok tp _ hT)
  obtain rfl := ClsV.all hc rv
  simp only at h2 h3
  subst h2 h3
  exact PySem.W.kia_tup Z I.kIn p h1 e hx fun tk => ⟨.bl b, H, I.tok tk, rfl, q⟩
end
/-! ### xs.remove(text) -/
def isTxt (k : Str) (v : Value) : Bool := match v with
  | .str n _ => n.cps.toList == k.cps.toList
  | _ => false
theorem str_cps {a b : Str} : (a.cps.toList == b.cps.toList) = true ↔ a = b := by
  rw [beq_iff_eq]
  constructor
  · intro h
    cases a
    cases b
    exact congrArg Str.mk (Array.toList_inj.mp h)
  · exact fun h => by rw [h]
theorem isTxt_at (k : Str) : ∀ {vs : List Value} {ns : List Str}, StrsAre vs ns → ∀ (i : Nat) (h : i < vs.length), isTxt k vs[i] = true ↔ ns[i]? = some k
  | _, _, .nil, i, h => absurd h (Nat.not_lt_zero _)
  | _, _, .cons n t hr, 0, _ => by
    show (n.cps.toList == k.cps.toList) = true ↔ some n = some k
    rw [str_cps, Option.some_inj]
  | _, _, .cons n t hr, i + 1, h => isTxt_at k hr i (Nat.lt_of_succ_lt_succ h)
theorem isTxt_eq {k : Str} {t : Tok} {vs : List Value} {ns : List Str} (h : StrsAre vs ns) : ∀ y ∈ vs, MeetsSeq.EqGives y (.str k t) (isTxt k y) := by
  induction h with
  | nil => intro y hy; cases hy
  | cons n u _ ih =>
    intro y hy
    rcases List.mem_cons.mp hy with rfl | hy
    · exact SeqRoads2.EqGives.str n k u t
    · exact ih y hy
theorem txt_first : ∀ {ns : List Str} {k : Str}, k ∈ ns → ∃ j, ns[j]? = some k ∧ (∀ i, i < j → ns[i]? ≠ some k) ∧ ns.eraseIdx j = ns.erase k
  | a :: r, k, h => by
    by_cases e : a = k
    · subst e
      exact ⟨0, rfl, fun i hi => absurd hi (Nat.not_lt_zero _), by rw [List.erase_cons_head]; rfl⟩
    · obtain ⟨j, h2, h3, h4⟩ := txt_first (ns := r) (k := k) ((List.mem_cons.mp h).resolve_left fun z => e z.symm)
      refine ⟨j + 1, h2, fun i hi => ?_, ?_⟩
      · cases i with
        | zero => exact fun z => e (Option.some.inj z)
        | succ i => exact h3 i (Nat.lt_of_succ_lt_succ hi)
      · rw [List.erase_cons_tail (by simpa using e), ← h4]
        rfl
theorem txt_eraseIdx : ∀ (l : List Str) (j : Nat), (l.map V.str).eraseIdx j = (l.eraseIdx j).map V.str
  | [], _ => rfl
  | _ :: _, 0 => rfl
  | a :: r, j + 1 => congrArg (List.cons (V.str a)) (txt_eraseIdx r j)
section
variable {X : Cx}
theorem mt_removeX : MtM X "list.remove" (fun x vs H Q => ∃ (l : Addr) (xs : List Str) (y : Str), x = .ref l ∧ vs = [.str y] ∧ H l = some (.lst (xs.map V.str)) ∧ y ∈ xs ∧ Q .non (upd H l (.lst ((xs.erase y).map V.str)))) := by
  rintro pins s σ H x vs v us Q I rx rxs ⟨l, ns, k, rfl, rfl, hH, hk, q⟩
  obtain rfl : v = .ref l := rx
  obtain ⟨u, rfl, t, rfl⟩ := rxs.one
  obtain ⟨z, its, n, r, hl, e0⟩ := I.lstM hH
  have hi := r.strs
  have hnl : ns.length = its.length := by rw [← hl, List.length_map]
  obtain ⟨j, j2, j3, j4⟩ := txt_first hk
  have hj : j < its.length := by have := (List.getElem?_eq_some_iff.mp j2).1; omega
  refine call_meets PySem.F.slot_list_remove ⟨_, e0, rfl⟩ PySem.F.entry_list_remove (PySem.F.args_list_remove_2 _ _)
    (MeetsSeq.list_remove l its.toArray n (.str k t) (isTxt k) (fun y hy => isTxt_eq hi y (by simpa using hy)) j (by rw [List.size_toArray]; exact hj) ?_ (fun i hi2 hlt => ?_) (by rw [List.size_toArray, ← hl]; exact z)) ⟨e0, ?_⟩
  · exact (isTxt_at k hi j hj).mpr j2
  · have hi3 : i < its.length := by rw [List.size_toArray] at hi2; exact hi2
    exact Bool.eq_false_iff.mpr fun w => j3 i hlt ((isTxt_at k hi i hi3).mp w)
  have r2 : Vals ((ns.erase k).map V.str) (its.eraseIdx j) := by
    have w := r.eraseIdx j
    rw [txt_eraseIdx, j4] at w
    exact w
  refine ⟨.non, _, I.lset (its' := its.eraseIdx j) hH e0 (List.eraseIdxIfInBounds_toArray ..) r2 ?_, rfl, q⟩
  rw [List.length_map] at z ⊢
  exact Nat.le_trans List.length_erase_le z
/-! ### xs == [] -/
theorem op_eqNil (hu : X.A.units < cLine) : OpR X (compareOp .Eq) (fun x y H Q => ∃ a b xs, x = .ref a ∧ y = .ref b ∧ SqL X.K H a xs ∧ SqL X.K H b [] ∧ Q (.bl xs.isEmpty) H) := by
  rintro pins s σ H x y v u Q I rx ry ⟨a, b, xs, rfl, rfl, ha, hb, q⟩
  obtain rfl : v = .ref a := rx
  obtain rfl : u = .ref b := ry
  obtain ⟨its, rv, pl, _⟩ := I.list ha
  obtain ⟨jts, rw', pl2, _⟩ := I.list hb
  have hl := rv.length
  have hl2 := rw'.length
  obtain ⟨⟨c1, d1, dt1, sl1⟩, ho, hc, n, hd⟩ := pl.isList
  obtain ⟨⟨c2, d2, dt2, sl2⟩, ho2, hc2, n2, hd2⟩ := pl2.isList
  simp only at hc hd hc2 hd2
  subst hc hd hc2 hd2
  have fin : ∀ k : Bool, k = xs.isEmpty → EP X pins σ Q (.bool k) s := fun k e => ⟨.bl k, H, I, rfl, by rw [e]; exact q⟩
  by_cases h0 : its.toArray.size = jts.toArray.size
  · refine SeqAt.list_same_at ho ho2 h0 hu ?_ fun j h1 h2 => absurd h2 (by rw [List.size_toArray, ← hl2]; exact Nat.not_lt_zero j)
    refine fin _ ?_
    have : its.length = 0 := by rw [List.size_toArray, List.size_toArray] at h0; rw [← hl2] at h0; exact h0
    have hx : xs = [] := List.eq_nil_of_length_eq_zero (by omega)
    rw [List.size_toArray, this, hx]
    rfl
  · refine SeqAt.list_other_at ho ho2 (by simpa using h0) hu ?_
    refine fin _ ?_
    cases xs with
    | nil =>
      rw [List.size_toArray, List.size_toArray, ← hl, ← hl2] at h0
      exact (h0 rfl).elim
    | cons x r => rfl
end
end N32
set_option Elab.async false
set_option linter.all false
set_option maxRecDepth 100000
set_option maxHeartbeats 4000000
/-! sorted of tuples of ints of any sign. -/
namespace N32
open PySem PySem.Spec PyProof.Rows L2
/-- one list of ints stands ahead of another -/
def lexI : List Int → List Int → Bool
  | a :: r, b :: t => if a = b then lexI r t else decide (a < b)
  | _, _ => false
theorem lexI_swo : (∀ x y : List Int, lexI x y = true → lexI y x = false) ∧ ∀ x y z : List Int, x.length = y.length → y.length = z.length → lexI y x = false → lexI z y = false → lexI z x = false := by
  constructor
  · intro x
    induction x with
    | nil => intro y h; cases y <;> rfl
    | cons a r ih =>
      intro y h
      cases y with
      | nil => rfl
      | cons b t =>
        unfold lexI at h ⊢
        by_cases e : a = b
        · rw [if_pos e] at h
          rw [if_pos e.symm]
          exact ih t h
        · rw [if_neg e] at h
          rw [if_neg fun z => e z.symm]
          have := of_decide_eq_true h
          exact decide_eq_false (by omega)
  · intro x
    induction x with
    | nil => intro y z _ _ _ _; cases z <;> rfl
    | cons a r ih =>
      intro y z l1 l2 h1 h2
      cases y with
      | nil => simp at l1
      | cons b t =>
        cases z with
        | nil => rfl
        | cons c u =>
          unfold lexI at h1 h2 ⊢
          by_cases e1 : b = a
          · subst e1
            rw [if_pos rfl] at h1
            by_cases e2 : c = b
            · rw [if_pos e2] at h2 ⊢
              exact ih t u (by simpa using l1) (by simpa using l2) h1 h2
            · rw [if_neg e2] at h2 ⊢
              exact h2
          · rw [if_neg e1] at h1
            have h1 := of_decide_eq_false h1
            by_cases e2 : c = b
            · subst e2
              rw [if_neg e1]
              exact decide_eq_false h1
            · rw [if_neg e2] at h2
              have h2 := of_decide_eq_false h2
              have e3 : c ≠ a := by omega
              rw [if_neg e3]
              exact decide_eq_false (by omega)
/-- a tuple of these ints -/
def IsInts (h : Heap) (v : Value) (ns : List Int) : Prop := ∃ a o its n, v = .ref a ∧ h.get? a = some o ∧ o.cls = .type "tuple" ∧ o.data = .seq its n ∧ IntsAre its.toList ns
theorem IsInts.keeps {h h' : Heap} {v : Value} {ns : List Int} (p : IsInts h v ns) (k : ∀ b o, h.get? b = some o → o.cls = .type "tuple" → h'.get? b = some o) : IsInts h' v ns :=
  let ⟨a, o, its, n, e, ho, hc, r⟩ := p; ⟨a, o, its, n, e, k _ _ ho hc, hc, r⟩
section
variable {prog : Program} {w : World} {A : Around} {E : Value → Shared → Prop} {s : Shared}
theorem kat_ints {b : Bool} {Q : Bool → Shared → Prop} {xs : List Value} {ns : List Int} (hx : IntsAre xs ns) : ∀ {ys : List Value} {ms : List Int} (i : Nat), IntsAre ys ms → ns.length = ms.length → Q (lexI ns ms) s → PySem.W.KatLex prog w A b false Q (xs.zip ys) i s := by
  induction hx with
  | nil =>
    intro ys ms i hy hl h
    cases hy with
    | nil => exact PySem.W.kat_nil h
    | cons q u hy => cases hl
  | cons p t hx ih =>
    intro ys ms i hy hl h
    cases hy with
    | nil => cases hl
    | cons q u hy =>
      unfold lexI at h
      refine PySem.W.kat_cons (wpAny_eqBool_int ?_)
      by_cases e : p = q
      · rw [if_pos e] at h
        rw [e, beq_self_eq_true]
        exact PySem.W.kat_yes (ih (i + 1) hy (Nat.succ.inj hl) h)
      · rw [if_neg e] at h
        rw [beq_eq_false_iff_ne.mpr e]
        exact PySem.W.kat_no (TS.oneLt_ints _ h)
theorem ints_cmp {vs : List Value} {k : Value → List Int} {d : Nat} (hp : ∀ v ∈ vs, IsInts s.heap v (k v) ∧ (k v).length = d) : SrtO.Cmp prog w A s (tuples' true) (fun p => p.1 ∈ vs) (SrtO.lt2 fun v u => lexI (k v) (k u)) := by
  intro p q hm hm'
  obtain ⟨⟨a, o, its, n, e, ho, hc, hd, hi⟩, l1⟩ := hp _ hm
  obtain ⟨⟨a', o', its', n', e', ho', hc', hd', hi'⟩, l2⟩ := hp _ hm'
  show wpAny (model prog w) A (keyLt' (tuples' true) p.1 q.1) (fun r s' => s' = s ∧ r = lexI (k p.1) (k q.1)) (fun _ _ => False) s
  have hz : its.size = its'.size := by
    rw [← Array.length_toList, ← Array.length_toList, hi.length, hi'.length, l1, l2]
  generalize hk : lexI (k p.1) (k q.1) = r0
  rw [e, e']
  refine PySem.W.kat_lt ho hd ho' hd' ?_
  rw [decide_eq_false (by omega : ¬ its.size < its'.size)]
  refine kat_ints hi 0 hi' (l1.trans l2.symm) ?_
  exact ⟨rfl, hk⟩
theorem ints_firsts {h : Heap} {k : Value → List Int} : ∀ {vs : List Value}, (∀ v ∈ vs, IsInts h v (k v) ∧ 0 < (k v).length) → ∃ fs : List Value, PySem.W.KatTups h vs fs ∧ fs.length = vs.length ∧ ∀ f ∈ fs, ∃ x t, f = Value.int x t
  | [], _ => ⟨[], PySem.W.KatTups.nil, rfl, fun _ hm => nomatch hm⟩
  | v :: vs, hp => by
    obtain ⟨fs, h1, h2, h3⟩ := ints_firsts (vs := vs) fun u hm => hp u (List.mem_cons_of_mem _ hm)
    obtain ⟨⟨a, o, its, n, rfl, ho, hc, hd, hi⟩, hl⟩ := hp v List.mem_cons_self
    generalize k (.ref a) = ns at hi hl
    obtain ⟨f, hf, x, t, rfl⟩ : ∃ f, its.toList[0]? = some f ∧ ∃ x t, f = Value.int x t := by
      generalize its.toList = l at hi
      cases hi with
      | nil => exact absurd hl (Nat.lt_irrefl 0)
      | cons x t r => exact ⟨_, rfl, x, t, rfl⟩
    refine ⟨_ :: fs, PySem.W.KatTups.cons ho hc hd (by rw [← Array.getElem?_toList]; exact hf) h1, congrArg (· + 1) h2, fun g hg => ?_⟩
    rcases List.mem_cons.mp hg with rfl | hg
    · exact ⟨x, t, rfl⟩
    · exact h3 g hg
theorem ints_sortable {a : Addr} {vs : List Value} {k : Value → List Int} {d : Nat} (h0 : 0 < vs.length) (hd : 0 < d) (hp : ∀ v ∈ vs, IsInts s.heap v (k v) ∧ (k v).length = d) (ha : ∀ o, s.heap.get? a = some o → o.cls ≠ .type "tuple") :
    SrtO.SortableO prog w A s a vs fun v u => lexI (k v) (k u) := by
  intro h' keep
  have hp' : ∀ v ∈ vs, IsInts h' v (k v) ∧ (k v).length = d := fun v hm => ⟨(hp v hm).1.keeps fun b o e c => keep b o (fun z => by subst z; exact ha o e c) e, (hp v hm).2⟩
  obtain ⟨fs, h1, h2, h3⟩ := ints_firsts fun v hm => ⟨(hp' v hm).1, by rw [(hp' v hm).2]; exact hd⟩
  refine ⟨tuples' true, fun Q E hq => ?_, ints_cmp (s := { s with heap := h' }) hp'⟩
  refine PySem.W.kat_kind (T := .type "int") h1 (by omega) (fun f hm => ?_) (by rfl) ?_
  · obtain ⟨x, t, rfl⟩ := h3 f hm
    exact PySem.W.Looks.now
  · rw [show (Value.type "int" != Value.type "tuple") = true by decide]
    exact hq
end
end N32
set_option Elab.async false
set_option linter.all false
set_option maxRecDepth 100000
set_option maxHeartbeats 4000000
namespace N32
open PySem PySem.Spec PyProof.Rows L2
/-- sorted of a list of tuples of three ints -/
def lex3 (a b : Int × Int × Int) : Prop := a.1 < b.1 ∨ (a.1 = b.1 ∧ (a.2.1 < b.2.1 ∨ (a.2.1 = b.2.1 ∧ a.2.2 ≤ b.2.2)))
def rSort3 (K : PySem.W.Frag) : List V → Hp → VK → Prop := fun vs H Q => ∃ (a : Addr) (xs : List V) (k : V → Int × Int × Int), vs = [V.ref a] ∧ SqL K H a xs ∧ xs.length < 64 ∧ (∀ x ∈ xs, ∃ t, x = .ref t ∧ SqT K H t [.int (k x).1, .int (k x).2.1, .int (k x).2.2]) ∧
  ∀ (ys : List V) (p : Addr), ys.Perm xs → ys.Pairwise (fun x y => lex3 (k x) (k y)) → H p = none → Q (.ref p) (upd H p (.lst ys))
abbrev li3 (a : Int × Int × Int) : List Int := [a.1, a.2.1, a.2.2]
theorem lex3_of {a b : Int × Int × Int} (h : lexI (li3 b) (li3 a) = false) : lex3 a b := by
  unfold li3 lexI at h
  unfold lex3
  split at h
  · rename_i e
    unfold lexI at h
    split at h
    · rename_i e2
      unfold lexI at h
      split at h
      · rename_i e3
        omega
      · have := of_decide_eq_false h
        omega
    · have := of_decide_eq_false h
      omega
  · have := of_decide_eq_false h
    omega
theorem swo3 {α : Type} (k : α → Int × Int × Int) : SrtO.Swo fun x y => lexI (li3 (k x)) (li3 (k y)) :=
  ⟨fun x y h => lexI_swo.1 _ _ h, fun x y z h1 h2 => lexI_swo.2 (li3 (k x)) (li3 (k y)) (li3 (k z)) rfl rfl h1 h2⟩
section
variable {X : Cx}
theorem cr_sort3 {K : PySem.W.Frag} (hK : X.K = K := by rfl) : CallR X (.builtin "sorted") (rSort3 K) := by
  subst hK
  intro pins s σ H vs us Q I r h
  obtain ⟨a, xs, k, rfl, hs, h64, hx, q⟩ := h
  obtain ⟨its, rv, hl, hz⟩ := I.list hs
  obtain ⟨u, rfl, ru⟩ := vals1 r
  obtain rfl : u = Value.ref a := ru
  obtain ⟨e1, e2⟩ := refs_back rv fun x m => by
    obtain ⟨t, e, _⟩ := hx x m
    exact ⟨t, e⟩
  have hp : ∀ v ∈ its, IsInts s.heap v (li3 (k (backV v))) ∧ (li3 (k (backV v))).length = 3 := fun v hv => by
    obtain ⟨t, rfl⟩ := e2 v hv
    have hm : V.ref t ∈ xs := by rw [e1]; exact List.mem_map.mpr ⟨_, hv, rfl⟩
    obtain ⟨t', e, ht⟩ := hx _ hm
    cases e
    obtain ⟨its2, r2, ⟨o, ho, hc, n, hd⟩, _⟩ := I.tuple ht
    refine ⟨⟨t, o, its2.toArray, n, rfl, ho, hc, hd, ?_⟩, rfl⟩
    exact Vals.ints (ns := li3 (k (.ref t))) r2
  refine SrtO.sorted_ord (swo3 fun u => k (backV u)) hl.isList (by rw [← rv.length]; exact hz) (fun h2 h₁ b hb keep => ?_) fun out h1 h2 => ?_
  · exact ints_sortable (k := fun v => li3 (k (backV v))) (d := 3) (by omega) (by decide) (fun v hv => ⟨(hp v hv).1.keeps fun c o e _ => (keep c o e).2, rfl⟩) fun o e => by
      rw [show ({ s with heap := h₁ } : Shared).heap.get? b = h₁.get? b from rfl, hb] at e
      cases e
      exact fun z => absurd z (show ¬ (Value.type "list" = Value.type "tuple") by decide)
  · have h3 : ∀ u ∈ out, ∃ a, u = Value.ref a := fun u hu => e2 u (h2.perm.mem_iff.mp hu)
    obtain ⟨ep, he'⟩ := PyProof.Rows.sortedAll_at s.heap its out.toArray
    have hb : (out.map backV).Perm xs := by
      rw [e1]
      exact h2.perm.map backV
    have hlen : (out.map backV).length ≤ sizeLine := by
      rw [hb.length_eq]
      exact hz
    refine ⟨.ref _, upd H (s.heap.objs.size + 1) (.lst (out.map backV)), I.laid (t' := s.toks) (fun _ _ => PyProof.Rows.sortedAll_old) (Nat.le_succ _) ⟨hlen, out, ep, vals_back h3, he'⟩, rfl, q _ _ hb ?_ (I.hok.fresh (Nat.le_succ _))⟩
    rw [List.pairwise_map]
    exact h1.imp fun h => lex3_of h
end
end N32
set_option Elab.async false
set_option linter.all false
set_option maxRecDepth 100000
set_option maxHeartbeats 4000000
/-! sets of texts, and comprehensions that make them. -/
namespace N32
open PySem PySem.Spec PyProof.Rows L2 PySem.Froz
/-- the set at a holds just the texts l -/
def SetX (P : Program) (w : World) (h : Heap) (a : Addr) (l : List Str) : Prop :=
  ∃ D : SD, h.get? a = some (sObj "set" D) ∧ TxOk P w D l ∧ l.Nodup ∧ l.length ≤ 60 ∧ Ris D.2.2.place.toList ∧ (w.params.followText "set-order" = true ∨ D.2.2.led = true)
def SetS (P : Program) (w : World) (a : Addr) (xs : List Str) : HO := .ext fun h => SetX P w h a xs
def addS (S : List Str) (z : Str) : List Str := if z ∈ S then S else S ++ [z]
theorem txRe {P : Program} {w : World} {D : SD} {l m : List Str} (F : TxOk P w D l) (h1 : ∀ k, k ∈ m ↔ k ∈ l) (h2 : l.length = m.length) : TxOk P w D m := ⟨F.el, fun k => (h1 k).trans (F.mem k), F.sz.trans h2, F.fit⟩
theorem SetX.go {P : Program} {w : World} {h g : Heap} {a : Addr} {l : List Str} (x : SetX P w h a l) (k : ∀ o, h.get? a = some o → g.get? a = some o) : SetX P w g a l :=
  let ⟨D, ho, r⟩ := x; ⟨D, k _ ho, r⟩
theorem setS_new {P : Program} {w : World} {H : Hp} {h : Heap} {a : Addr} {l : List Str} (x : SetX P w h a l) : ObjOk P w H h a (SetS P w a l) := by
  have ⟨D, ho, _⟩ := x
  exact ⟨x, ⟨_, ho⟩, fun _ _ p k => SetX.go p k⟩
theorem setX_fresh {P : Program} (w : World) {h : Heap} : SetX P w (h.push { cls := .type "set", dict := none, data := .set #[] 0 (.fresh 0 0 (!w.params.followText "set-order")) }) h.objs.size [] := by
  refine ⟨(#[], 0, .fresh 0 0 (!w.params.followText "set-order")), Heap.get?_push_size _ rfl, TxOk.nil (by rfl), List.nodup_nil, Nat.zero_le _, List.Pairwise.nil, ?_⟩
  show _ ∨ (!w.params.followText "set-order") = true
  cases w.params.followText "set-order" <;> simp
theorem tailTx_ris {ep : Nat} {es : Array (Int × Value)} {t : SetTable} {b : Bool} (r : Ris t.place.toList) : Ris (tailTx ep es t b).2.2.place.toList := by
  unfold tailTx
  split
  · exact relayAll_ris _ _ _
  · exact r
theorem tailTx_led {ep : Nat} {es : Array (Int × Value)} {t : SetTable} {b : Bool} : (tailTx ep es t b).2.2.led = t.led := by
  unfold tailTx
  split
  · exact relayAll_led _ _ _
  · rfl
theorem addTx_ris {i : Int} {v : Value} {D : SD} (r : Ris D.2.2.place.toList) : Ris (addTx i v D).2.2.place.toList := by
  unfold addTx
  refine tailTx_ris ?_
  split
  · exact layNew_ris _ _ _ _ r
  · exact layNew_ris _ _ _ _ r
theorem addTx_led {i : Int} {v : Value} {D : SD} : (addTx i v D).2.2.led = D.2.2.led := by
  unfold addTx
  rw [tailTx_led]
  split
  · exact layNew_led _ _ _ _
  · exact layNew_led _ _ _ _
section
variable {P : Program} {w : World} {A : Around} {E : Value → Shared → Prop} {s : Shared}
/-- a text that is there already -/
theorem add_old {a : Addr} {T : String} {D : SD} {l : List Str} {k : Str} {u : Tok} {Q : Bool → Shared → Prop} (ho : s.heap.get? a = some (sObj T D)) (F : TxOk P w D l) (hk : k ∈ l) (hb : l.length < scanBound) (h : Q false s) :
    wpAny (model P w) A (setAddHashed a (.str k u) (hashStr w k)) Q E s := by
  obtain ⟨es, ep, t⟩ := D
  have hd : (sObj T (es, ep, t)).data = .set es ep t := rfl
  have hz : es.size < scanBound := by
    have : es.size = l.length := F.sz
    omega
  have he : ElemsOf (strKind P w) es.toList := F.el
  have hf : t.fits es.size = true := F.fit
  have hq : (strKind P w).is k (.str k u) = true := is_str k u
  unfold setAddHashed setAddHashedIn
  refine wpAny_holding (wpAny_bind (wpAny_setState_of ho hd hf ?_))
  dsimp only
  rw [byScan_of rfl hz he]
  simp only [↓reduceIte]
  unfold setAddByScan
  refine wpAny_bind (wpAny_bind (wpAny_rule (wpAny_bind (wpAny_setScan_of (knd := strKind P w) (k := k) hq ho hd hf he ?_))))
  cases hr : List.findIdx? (fun e => (strKind P w).is k e.2) es.toList with
  | none =>
    obtain ⟨e, m, z⟩ := (F.mem k).mp hk
    have c := List.findIdx?_eq_none_iff.mp hr e m
    rw [z] at c
    cases c
  | some j =>
    dsimp only
    exact wpAny_pure (wpAny_pure h)
end
section
variable {X : Cx}
theorem setS_get {pins : List (Addr × Obj)} {σ : L2.St} {H : Hp} {s : Shared} {P : Program} {w : World} {a : Addr} {l : List Str} (I : Inv X pins σ H s) (ha : H a = some (SetS P w a l)) : SetX P w s.heap a l := (I.hok a _ ha).1
/-- D.add(text) -/
theorem addS_ok {pins : List (Addr × Obj)} {σ : L2.St} {H : Hp} {s : Shared} {E : Value → Shared → Prop} {D : Addr} {S : List Str} {y : Str} {u : Tok} {Q : Value → Shared → Prop} (I : Inv X pins σ H s) (hD : H D = some (SetS X.prog X.w D S)) (room : S.length < 60)
    (h : ∀ s', Inv X pins σ (upd H D (SetS X.prog X.w D (addS S y))) s' → Q .none s') : wpAny (model X.prog X.w) X.A (call (.builtin "set.add") [.ref D, .str y u]) Q E s := by
  obtain ⟨T, ho, tx, nd, hz, hr, hl⟩ := setS_get I hD
  refine wpAny_call_entry F.slot_set_add ⟨_, ho, rfl⟩ F.entry_set_add ?_ (F.args_set_add_2 _ _)
  unfold Builtin.«set.add» Builtin.Frozenset.oneOther
  simp only [List.isEmpty_nil, bind_assoc]
  unfold Builtin.Frozenset.addrOf setAdd
  refine wpAny_bind (wpAny_pure ?_)
  try dsimp only
  refine wpAny_bind (wpAny_pure ?_)
  try dsimp only
  refine wpAny_bind (wpAny_holding (wpAny_bind ((strKind X.prog X.w).pyHash (k := y) (is_str y u) ?_)))
  have sb : (60 : Nat) < scanBound := by decide
  by_cases hm : y ∈ S
  · refine add_old (s := { s with toks := s.toks + 1 }) ho tx hm (by omega) ?_
    refine wpAny_pure ⟨_, rfl, h _ ?_⟩
    have e : upd H D (SetS X.prog X.w D (addS S y)) = H := by
      unfold addS
      rw [if_pos hm]
      funext b
      unfold upd
      split
      · rename_i q
        rw [q, hD]
      · rfl
    rw [e]
    exact I.tok _
  · refine add_x (s := { s with toks := s.toks + 1 }) ho tx hm (by omega) ?_
    have new : SetX X.prog X.w (s.heap.update D (fun _ => sObj "set" (addTx (hashStr X.w y) (.str y u) T))) D (addS S y) := by
      unfold addS
      rw [if_neg hm]
      refine ⟨_, get_upd _ ho rfl, txRe (add_ok u tx) (fun k => by simp [or_comm]) (by simp), ?_, by rw [List.length_append]; exact room, addTx_ris hr, ?_⟩
      · rw [List.nodup_append]
        exact ⟨nd, by simp, fun a ha b hb z => hm (by rw [← List.mem_singleton.mp hb, ← z]; exact ha)⟩
      · rw [addTx_led]
        exact hl
    refine wpAny_pure ⟨_, rfl, h _ (I.write (e := D) (t' := s.toks + 1) (by rw [hD]; trivial) (.inl rfl) (fun b o q hb => (Heap.get?_update_other _ _ (Ne.symm q)).trans hb) ⟨_, new.choose_spec.1⟩ (setS_new new))⟩
end
end N32
set_option Elab.async false
set_option linter.all false
set_option maxRecDepth 100000
set_option maxHeartbeats 4000000
/-! a comprehension that makes a set of texts. -/
namespace N32
open PySem PySem.Spec PyProof.Rows L2 PpSet
section
variable {X : Cx}
def tScS (P : Program) (w : World) (wi : TI) (g : TG) (tt : TT) (te : TE) (vs : List Nat) : TE := fun σ H Q => wi σ H fun J H1 => ∀ D, H1 D = none → ∃ W : Nat → Nat → Hp → Prop, (∃ m, W 0 m (upd H1 D (SetS P w D []))) ∧ ∀ i m H, W i m H →
  (J.stop i H ∧ Q (.ref D) H) ∨ (J.go i H ∧ ∃ Nx : Hp → Prop, (∀ H', Nx H' → ∃ m', m' < m ∧ W (i + 1) m' H') ∧ ∀ x H', J.yld i H x H' → g x (wipe σ vs) H' fun σ2 H2 => wipe σ2 vs = wipe σ vs ∧ tt σ2 H2 fun b H3 =>
    if b = true then te σ2 H3 fun y H4 => ∃ (z : Str) (S : List Str), y = .str z ∧ H4 D = some (SetS P w D S) ∧ S.length < 60 ∧ Nx (upd H4 D (SetS P w D (if z ∈ S then S else S ++ [z]))) else Nx H3)
theorem pe_scS {elt tg iter : Expr} {ifs : List Expr} {scope : Scope} {own : List (Str × Nat)} {pos : Pos} {wi : TI} {g : TG} {tt : TT} {te : TE} (hc : X.calm = true) (hN : X.N.Nodup) (hi : PI X tg iter wi) (ok : BlkOk X.N X.env.scope scope own)
    (hg : ∀ (s : Shared) (H : Hp) (C : Addr) (cl : List (Str × Addr)) (fp : List Addr), PG (X.blk s H scope (compEnvC scope cl C X.env) fp) tg g) (ht : ∀ (s : Shared) (H : Hp) (C : Addr) (cl : List (Str × Addr)) (fp : List Addr), PTs (X.blk s H scope (compEnvC scope cl C X.env) fp) ifs tt)
    (he : ∀ (s : Shared) (H : Hp) (C : Addr) (cl : List (Str × Addr)) (fp : List Addr), PE (X.blk s H scope (compEnvC scope cl C X.env) fp) elt te) (hs : ∀ x, foldedSetIterable iter X.env x = pure x := by intro _; rfl) :
    PE X (.SetComp elt [⟨tg, iter, ifs, 0⟩] scope pos) (tScS X.prog X.w wi g tt te (own.map (·.2))) := by
  refine ⟨fun pins s0 σ Ha Q I0 hyp => ?_⟩
  rw [eval_SetComp]
  have bound : ∀ y ∈ scope.names, y.2 = .free → ∃ c, X.env.cells.lookup y.1 = some c := fun y m e => (ok.free y m e).elim (fun k => I0.ok.has _ (.inl k)) fun k => I0.ok.has _ (.inr k)
  refine wpAny_comprehension_free (use := none) rfl hs (closure_ok bound) ok.kind (fun y m e => by rw [ok.uniq y m, e]) (thn (hi.run pins s0 σ Ha _ I0 hyp) fun _ sA wA => thn wA fun _ sB wB => ?_)
  obtain ⟨it, fp, tn, J, Hb, rfl, Ib, Wk, at0, out, q⟩ := wB
  refine newSet_ok (newEnv_comp ?_)
  generalize eD : sB.heap.objs.size = D
  have free0 : Hb D = none := Ib.hok.fresh (Nat.le_of_eq eD)
  obtain ⟨W, ⟨m0, w0⟩, turn⟩ := q D free0
  generalize eC : ({ sB with heap := sB.heap.push { cls := .type "set", dict := none, data := .set #[] 0 (.fresh 0 0 (!X.w.params.followText "set-order")) } } : Shared) = sC
  have hpC : sC.heap = sB.heap.push { cls := .type "set", dict := none, data := .set #[] 0 (.fresh 0 0 (!X.w.params.followText "set-order")) } := by rw [← eC]
  have Ic : Inv X pins σ (upd Hb D (SetS X.prog X.w D [])) sC := by
    rw [← eC]
    refine Ib.laid (t' := sB.toks) (fun _ _ e => Heap.get?_push_of_some _ e) (Nat.le_of_eq eD) ?_
    rw [← eD]
    exact setS_new (setX_fresh X.w)
  generalize eHc : upd Hb D (SetS X.prog X.w D []) = Hc at Ic w0
  have old : ∀ b ∈ fp, b < sB.heap.objs.size := fun b m => let ⟨_, e, _⟩ := Wk.obj _ _ at0 b m; Heap.lt_size e
  have fpC : ∀ b ∈ fp, FpOk X pins Hc b ∧ b < sC.heap.objs.size := fun b m => by
    have lt := old b m
    refine ⟨⟨?_, (out b m).2⟩, by rw [hpC, Heap.size_push]; exact Nat.lt_succ_of_lt lt⟩
    rw [← eHc, upd_ne (by rw [← eD]; exact Nat.ne_of_lt lt)]
    exact (out b m).1
  have none0 : ∀ b ∈ fp, Hc b = none := fun b m => (fpC b m).1.1
  have atC : tn 0 sC.heap := Wk.keep _ _ _ at0 fun b _ o e => by rw [hpC]; exact Heap.get?_push_of_some _ e
  have Id := block_start Ic ok hN fpC
  have rg := hg sC Hc sC.heap.objs.size (cellsFrom (sC.heap.objs.size + 1) scope.names (cloFrom X.env.cells scope.names [])) fp
  have rt := ht sC Hc sC.heap.objs.size (cellsFrom (sC.heap.objs.size + 1) scope.names (cloFrom X.env.cells scope.names [])) fp
  have re := he sC Hc sC.heap.objs.size (cellsFrom (sC.heap.objs.size + 1) scope.names (cloFrom X.env.cells scope.names [])) fp
  show codeAny _ _ (.compStart (.SetComp elt [⟨tg, iter, ifs, 0⟩] scope pos) 0 (.ref it) (.ref D) (compEnvC scope (cellsFrom (sC.heap.objs.size + 1) scope.names (cloFrom X.env.cells scope.names [])) sC.heap.objs.size X.env)) (compPost (model X.prog X.w) X.A X.xe none (EP X pins σ Q) (.ref D) sC.heap.objs.size) { sC with heap := pushCells (sC.heap.push { cls := .type "dict", data := .dict #[] }) scope.names }
  generalize ece : compEnvC scope (cellsFrom (sC.heap.objs.size + 1) scope.names (cloFrom X.env.cells scope.names [])) sC.heap.objs.size X.env = ce at Id rg rt re ⊢
  have loc : ce.locals = sC.heap.objs.size := by rw [← ece]; rfl
  generalize eS : ({ sC with heap := pushCells (sC.heap.push { cls := .type "dict", data := .dict #[] }) scope.names } : Shared) = sD at Id ⊢
  have atD : tn 0 sD.heap := Wk.keep _ _ _ atC fun b _ o e => by rw [← eS]; exact pushCells_keeps _ _ _ _ (Heap.get?_push_of_some _ e)
  have apart : ∀ {τ : L2.St} {G : Hp} {t : Shared}, Inv (X.blk sC Hc scope ce fp) [] τ G t → (∀ b ∈ fp, G b = none) → ∀ b ∈ fp, FpOk (X.blk sC Hc scope ce fp) [] G b := fun {τ G t} Ix nn b m =>
    ⟨nn b m, (Ix.ok.exf b m).1, Ix.ok.exfs b m, .inl m, fun x c e => (Ix.ok.exf b m).2 x c e, fun p mp => absurd (show p ∈ ([] : List (Addr × Obj)) ++ [] from mp) (by simp)⟩
  have whole : codeAny (model X.prog X.w) X.A (.compLoop (.SetComp elt [⟨tg, iter, ifs, 0⟩] scope pos) 0 (.ref it) (.ref D) ce) (compPost (model X.prog X.w) X.A X.xe none (EP X pins σ Q) (.ref D) sC.heap.objs.size) sD := by
    refine compLoopS_any (fun n t => ∃ i G, Inv (X.blk sC Hc scope ce fp) [] (wipe σ (own.map (·.2))) G t ∧ tn i t.heap ∧ (∀ b ∈ fp, G b = none) ∧ W i n G) ?_ m0 ⟨0, Hc, Id, atD, none0, w0⟩
    rintro n t1 ⟨i, G1, I1, at1, nn1, w1⟩
    rcases turn i n G1 w1 with ⟨stop, fine⟩ | ⟨go, Nx, hNx, step⟩
    · refine thnF (Wk.done (X.blk sC Hc scope ce fp) rfl rfl rfl hc i [] t1 _ G1 (fun _ _ => False) I1 (apart I1 nn1) at1 stop) fun r t2 ⟨er, I2⟩ => ?_
      subst er
      have I3 : Inv X pins σ G1 t2 := Ic.call' (ch := fp) I2.os I2.base I2.hok I2.bare fun b m => ⟨(fpC b m).1.2.2.2.1, (fpC b m).1.2.1, (fpC b m).1.2.2.2.2.1, (fpC b m).1.2.2.2.2.2⟩
      have noC : G1 sC.heap.objs.size = none := by
        have z : G1 ce.locals = none := I2.free
        rwa [loc] at z
      obtain ⟨m, ns, _⟩ := I2.loc
      have ns : t2.heap.Ns ce.locals m := ns
      rw [loc] at ns
      obtain ⟨f0, f1, f2, f3, f4, f5⟩ := Ic.fpOk (Nat.le_refl _) noC
      exact ⟨m, ns, fun h'' sb => ⟨.ref D, G1, I3.turned (t' := t2.toks) (fun b o hb e => (sb.2 b hb).trans e) f0 f1 f3 f4 f5, rfl, fine⟩⟩
    · refine thnF (Wk.item (X.blk sC Hc scope ce fp) rfl rfl rfl hc i [] t1 _ G1 (fun _ _ => False) I1 (apart I1 nn1) at1 go) fun r t2 ⟨u, er, w2⟩ => ?_
      subst er
      refine thnF w2 fun _ t3 ⟨x, G3, I3, rx, yx, at3, nn3⟩ => ?_
      refine thnF (rg.run _ t3 _ G3 x u _ (I3.pinned (apart I3 nn3) (Wk.obj _ _ at3)) rx (step x G3 yx)) fun _ t4 ⟨τ, G4, I4, hw4, q4⟩ => ?_
      have close : ∀ {t : Shared} {G : Hp}, Inv (X.blk sC Hc scope ce fp) ([] ++ pinsAt fp t3.heap) τ G t → Nx G → ∃ m, m < n ∧ ∃ i G, Inv (X.blk sC Hc scope ce fp) [] (wipe σ (own.map (·.2))) G t ∧ tn i t.heap ∧ (∀ b ∈ fp, G b = none) ∧ W i m G := fun {t G} Ix nx => by
        obtain ⟨m', lt, w'⟩ := hNx G nx
        have held : ∀ b ∈ fp, ∀ o, t3.heap.get? b = some o → t.heap.get? b = some o ∧ G b = none := fun b m o e => let z := Ix.pin (b, o) (List.mem_append_right _ (List.mem_append_right _ (mem_pinsAt m e))); ⟨z.1, z.2.1⟩
        refine ⟨m', lt, i + 1, G, (Ix.unpinned (pins := [])).weak (by rw [← hw4, wipe_length]) (fun j v e => (wipe_some (by rw [hw4]; exact e)).1), Wk.keep _ _ _ at3 fun b m o e => (held b m o e).1, fun b m => ?_, w'⟩
        exact let ⟨o, e, _⟩ := Wk.obj _ _ at3 b m; (held b m o e).2
      refine thnF (rt.run _ t4 τ G4 _ I4 q4) fun b t5 ⟨G5, I5, q5⟩ => ?_
      cases b with
      | false => exact close I5 q5
      | true =>
        simp only [if_true] at q5 ⊢
        refine thnF (re.run _ t5 τ G5 _ I5 q5) fun z t6 ⟨y, G6, I6, ry, k, S, ey, hD6, room, nx⟩ => ?_
        subst ey
        obtain ⟨tk, ez⟩ : ∃ tk, z = .str k tk := ry
        subst ez
        exact addS_ok (X := X.blk sC Hc scope ce fp) I6 hD6 room fun t7 I7 => close I7 nx
  exact codeAny_compStart_set whole (Wk.self X.A 0 _ _ _ atD whole)
end
end N32
set_option Elab.async false
set_option linter.all false
set_option maxRecDepth 100000
set_option maxHeartbeats 4000000
/-! sorted of a set of texts. -/
namespace N32
open PySem PySem.Spec PyProof.Rows L2 PySem.Froz
theorem isStr_shape {k : Str} {v : Value} (h : Value.isStrOf k v = true) : ∃ t, v = .str k t := by
  cases v <;> simp [Value.isStrOf] at h
  exact ⟨_, by rw [h]⟩
theorem tx_vals {P : Program} {w : World} {D : SD} {l : List Str} (F : TxOk P w D l) : ∀ v ∈ D.1.toList.map (·.2), ∃ x t, v = .str x t := fun v hv => by
  obtain ⟨e, he, rfl⟩ := List.mem_map.mp hv
  obtain ⟨⟨k, hk, _⟩, _⟩ := F.el e he
  exact ⟨k, isStr_shape hk⟩
theorem tx_mem {P : Program} {w : World} {D : SD} {l : List Str} (F : TxOk P w D l) (y : Str) : y ∈ (D.1.toList.map (·.2)).map strOf ↔ y ∈ l := by
  rw [F.mem y]
  constructor
  · intro h
    obtain ⟨v, hv, e⟩ := List.mem_map.mp h
    obtain ⟨x, t, rfl⟩ := tx_vals F v hv
    obtain ⟨e1, he, e2⟩ := List.mem_map.mp hv
    have e : x = y := e
    subst e
    exact ⟨e1, he, by rw [e2]; exact is_str x t⟩
  · rintro ⟨e, he, q⟩
    obtain ⟨t, z⟩ := isStr_shape q
    exact List.mem_map.mpr ⟨e.2, List.mem_map.mpr ⟨e, he, rfl⟩, by rw [z]; rfl⟩
def rSortedSetS (P : Program) (w : World) : List V → Hp → VK → Prop := fun vs H Q => ∃ (a : Addr) (S : List Str), vs = [V.ref a] ∧ H a = some (SetS P w a S) ∧
  ∀ (ys : List Str) (p : Addr), (∀ y, y ∈ ys ↔ y ∈ S) → ys.length = S.length → H p = none → Q (.ref p) (upd H p (.lst (ys.map V.str)))
section
variable {X : Cx}
theorem cr_sortedSetS (hc : X.calm = true) : CallR X (.builtin "sorted") (rSortedSetS X.prog X.w) := by
  intro pins s σ H vs us Q I r h
  obtain ⟨a, S, rfl, hH, q⟩ := h
  rw [Vals.ref1 r]
  obtain ⟨D, ho, tx, nd, hz, hr, hl⟩ := setS_get I hH
  have hsz : D.1.size = S.length := tx.sz
  have sb : (60 : Nat) < scanBound := by decide
  refine Calls.call_function_entry kind_sorted plain_sorted entry_sorted (args_sorted1 _) ?_
  unfold Builtin.«sorted»
  refine wpAny_bind (m := checkCount "sorted" 1 1 _) (wpAny_pure ?_)
  refine wpAny_bind (collect_set (A := X.A.in1) (I.ok.hd hc) ⟨_, ho, rfl, rfl⟩ tx.fit (by omega) hr hl fun s1 vs k1 hz1 g1 o1 pm => ?_)
  have hvl : vs.length = S.length := by rw [pm.length_eq, List.length_map, Array.length_toList]; exact hsz
  have hI := strsAre_map vs fun v hv => tx_vals tx v (pm.mem_iff.mp hv)
  refine wpAny_bind (wpAny_newList ?_ (by rw [hvl, sizeLine_eq]; omega))
  have hoL : (s1.heap.push (seqObj "list" vs.toArray 0)).get? s1.heap.objs.size = some (seqObj "list" vs.toArray 0) := Heap.get?_push_size _ rfl
  refine wpAny_bind (wpAny_holding (wpAny_call_entry slot_list_sort ⟨_, hoL, rfl⟩ entry_list_sort (list_sort_treeK strKind_oneLt hoL hI.keysOf (fun v₁ v₂ rest e => keyKind_strs (by rw [← e]; exact hI)) (by omega) fun st' b1 b2 => ⟨_, rfl, ?_⟩) (args_list_sort _)))
  obtain ⟨ys, a1, a2, a3⟩ := sorted_out_str hI b1 b2
  obtain ⟨c, hcl⟩ := sortedHeap_at (vs := vs) (out := (arrOf st').map (·.2)) hoL
  have hyl : ys.length = S.length := by rw [a2.length_eq, List.length_map]; exact hvl
  have kk : ∀ b u, s.heap.get? b = some u → (sortedHeap (s1.heap.push (seqObj "list" vs.toArray 0)) s1.heap.objs.size vs ((arrOf st').map (·.2))).get? b = some u := fun b u e => by
    have z := k1 b u e
    have lt := Heap.lt_size z
    rw [sortedHeap_old (Nat.ne_of_lt lt) (by rw [size_push']; exact Nat.lt_succ_of_lt lt)]
    exact Heap.get?_push_of_some _ z
  have nn : H s1.heap.objs.size = none := I.hok.fresh hz1
  have new : ObjOk X.prog X.w (upd H s1.heap.objs.size (.lst (ys.map V.str))) (sortedHeap (s1.heap.push (seqObj "list" vs.toArray 0)) s1.heap.objs.size vs ((arrOf st').map (·.2))) s1.heap.objs.size (.lst (ys.map V.str)) :=
    ⟨by rw [List.length_map, hyl, sizeLine_eq]; omega, _, c, vals_of_strs a1, hcl⟩
  refine wpAny_pure ⟨_, rfl, .ref _, upd H s1.heap.objs.size (.lst (ys.map V.str)), ?_, rfl, q ys _ (fun y => ?_) hyl nn⟩
  · exact I.call' (ch := []) o1 (Un.laid kk hz1 nn) (I.hok.laid kk hz1 new) (by rw [g1]; exact I.bare) (fun _ z => nomatch z)
  · rw [a2.mem_iff, ← tx_mem tx y]
    exact (pm.map strOf).mem_iff
end
end N32
set_option Elab.async false
set_option linter.all false
set_option maxRecDepth 100000
set_option maxHeartbeats 4000000
/-! len(set(t)), t a tuple of texts. -/
namespace N32
open PySem PySem.Spec PyProof.Rows L2 PySem.Froz
/-- the set at a holds the texts ys, some number of them -/
def Cnt (P : Program) (w : World) (h : Heap) (a : Addr) (ys : List Str) : Prop := ∃ c, h.SetOf (strKind P w) a (fun k => decide (k ∈ ys)) c ∧ c ≤ ys.length ∧ (c = ys.length ↔ ys.Nodup)
theorem Cnt.go {P : Program} {w : World} {h g : Heap} {a : Addr} {ys : List Str} (x : Cnt P w h a ys) (k : ∀ o, h.get? a = some o → g.get? a = some o) : Cnt P w g a ys :=
  let ⟨c, ⟨o, es, ep, t, ho, r⟩, q⟩ := x; ⟨c, ⟨o, es, ep, t, k _ ho, r⟩, q⟩
theorem cnt_push {ys : List Str} {z : Str} {c : Nat} (h : c ≤ ys.length) (e : c = ys.length ↔ ys.Nodup) :
    (if decide (z ∈ ys) = true then c else c + 1) ≤ (ys ++ [z]).length ∧ ((if decide (z ∈ ys) = true then c else c + 1) = (ys ++ [z]).length ↔ (ys ++ [z]).Nodup) := by
  rw [List.length_append, List.length_singleton]
  by_cases m : z ∈ ys
  · rw [if_pos (decide_eq_true m)]
    refine ⟨by omega, fun q => by omega, fun q => ?_⟩
    exact absurd rfl ((List.nodup_append.mp q).2.2 z m z List.mem_cons_self)
  · rw [if_neg (by simpa using m)]
    refine ⟨by omega, fun q => ?_, fun q => ?_⟩
    · exact List.nodup_append.mpr ⟨e.mp (by omega), by simp, fun a ha b hb ab => m (by rw [← List.mem_singleton.mp hb, ← ab]; exact ha)⟩
    · have := e.mpr (List.nodup_append.mp q).1
      omega
theorem txt_at : ∀ {vs : List Value} {xs : List Str}, StrsAre vs xs → ∀ (i : Nat) (v : Value), vs[i]? = some v → ∃ k t, xs[i]? = some k ∧ v = .str k t
  | _, _, .nil, i, v, h => by simp at h
  | _, _, .cons n t r, 0, v, h => ⟨n, t, rfl, (Option.some.inj h).symm⟩
  | _, _, .cons n t r, i + 1, v, h => txt_at r i v h
section
variable {P : Program} {w : World} {A : Around} {E : Value → Shared → Prop} {s : Shared}
theorem upd_txt {I : Addr} {fp wr : List Addr} {G : Array GenState → Array GenState → Prop} {n : Nat} {Pv : Nat → Value → Prop} {St : Nat → Shared → Prop} {R : Result → Shared → Prop} (W : WalksS P w A.in1 I fp wr G n Pv St) {S : Addr} (no : S ∉ fp)
    {xs : List Str} (hn : n = xs.length) (hb : xs.length + 1 < scanBound) (val : ∀ i v, Pv i v → ∃ k t, xs[i]? = some k ∧ v = .str k t) : ∀ (m i : Nat) (s : Shared), n - i = m → i ≤ n → St i s → Cnt P w s.heap S (xs.take i) →
      (∀ s', Moved (S :: wr) G s s' → Cnt P w s'.heap S xs → R (.ok (.ret .none)) s') → codeAny (model P w) A (.builtin "set.update.loop" ⟨[.ref S, .ref I], []⟩) R s := by
  have nw : S ∉ wr := fun h => no (W.sub _ h)
  have up : ∀ b ∈ wr, b ∈ S :: wr := fun b m => List.mem_cons_of_mem _ m
  intro m
  induction m with
  | zero =>
    intro i s0 e hi st C fin
    obtain rfl : i = n := by omega
    refine codeAny_builtin F.entry_set_update_loop ?_
    rw [Around.under_plainId F.plain_set_update_loop _]
    show wpAny _ A.in1 (pyNext (.ref I) >>= _) _ _ s0
    refine wpAny_bind (W.done s0 _ _ st fun s1 mv => ?_)
    rw [List.take_of_length_le (by omega)] at C
    exact wpAny_pure (fin s1 (mv.mono up) (C.go fun o e => mv.heap S o nw e))
  | succ m ih =>
    intro i s0 e hi st C fin
    have lt : i < n := by omega
    refine codeAny_builtin F.entry_set_update_loop ?_
    rw [Around.under_plainId F.plain_set_update_loop _]
    show wpAny _ A.in1 (pyNext (.ref I) >>= _) _ _ s0
    refine wpAny_bind (W.item i s0 _ _ lt st fun v s1 pv st1 mv => ?_)
    obtain ⟨z, t, hz, rfl⟩ := val i v pv
    obtain ⟨c, so, c1, c2⟩ := C.go (g := s1.heap) fun o e => mv.heap S o nw e
    show wpAny _ A.in1 (holding [Value.str z t] (setAdd S (.str z t)) >>= _) _ _ s1
    refine wpAny_bind (wpAny_holding ?_)
    unfold setAdd
    refine wpAny_holding (wpAny_bind ((strKind P w).pyHash (k := z) (is_str z t) ?_))
    have tl : (xs.take i).length ≤ i := by rw [List.length_take]; omega
    refine wpAny_setAddHashed_of (knd := strKind P w) (s := { s1 with toks := s1.toks + 1 }) (is_str z t) rfl so (by omega) fun h2 sb so2 => ?_
    have C2 : Cnt P w h2 S (xs.take (i + 1)) := by
      rw [List.take_add_one, hz]
      refine ⟨_, SetOf_congr so2 (fun k => ?_) rfl, cnt_push c1 c2⟩
      simp
    refine wpAny_pure ⟨plainId_quiet F.plain_set_update_loop _, ih (i + 1) _ (by omega) lt (W.frame _ s1 _ _ st1 (Nat.le_succ _) fun b hb o e => ?_) C2 fun s3 mv3 C3 => ?_⟩
    · exact (sb.2 b fun z : b = S => no (by rw [← z]; exact hb)).trans e
    · refine fin s3 (Moved.trans W.gtrans ((mv.mono up).then_heap (Nat.le_succ _) fun b o hb e => ?_) mv3) C3
      exact (sb.2 b fun z : b = S => hb (by rw [z]; exact List.mem_cons_self)).trans e
/-- the object of a new set -/
abbrev frS (w : World) : Obj := { cls := .type "set", dict := none, data := .set #[] 0 (.fresh 0 0 (!w.params.followText "set-order")) }
theorem call_set_tupT {l : Addr} {items : Array Value} (xs : List Str) {Q : Value → Shared → Prop} (hh : A.handled = none) (hl : s.heap.IsTuple l items) (hit : StrsAre items.toList xs) (hb : xs.length + 1 < scanBound)
    (h : ∀ (h' : Heap) (tk : Nat), Cnt P w h' s.heap.objs.size xs → (∀ b o, s.heap.get? b = some o → h'.get? b = some o) → Q (.ref s.heap.objs.size) { s with heap := h', toks := tk }) : wpAny (model P w) A (call (.type "set") [.ref l]) Q E s := by
  have sz : items.size = xs.length := by rw [← Array.length_toList]; exact StrsAre.length hit
  obtain ⟨c, tl, hmro⟩ := F.called_set.mro
  have hmade := F.called_set.made
  have hsub := F.called_set.sub
  refine wpAny_call (codeAny_of_tree ?_)
  show wpAny _ _ (callAny (.type "set") _) _ _ _
  refine wpAny_pure ⟨Code.quiet_builtin _ (by decide +kernel), codeAny_builtin F.entry_type_call ?_⟩
  rw [Around.under_plain (weight_type_call_type "set" [.ref l] []) rfl]
  have h1 := F.called_set.notType
  have h2 := F.called_set.canCreate
  have hct := F.typeCall_set_1 (.ref l)
  repeat (any_goals (first | assumption | wp_step))
  refine codeAny_mono (code_set_led1 (.ref l) (E := E) (Q₁ := fun v t => v = .ref s.heap.objs.size ∧ t = { s with heap := s.heap.push (frS w) }) ⟨rfl, rfl⟩) fun r t hr => ?_
  match r, hr with
  | .error e, hr => exact hr
  | .ok (.ret v), hr =>
    obtain ⟨rfl, rfl⟩ := hr
    have hS : (s.heap.push (frS w)).get? s.heap.objs.size = some (frS w) := Heap.get?_push_size _ rfl
    have hT : Shared.TypeIs { s with heap := s.heap.push (frS w) } (.ref s.heap.objs.size) "set" := ⟨_, hS, rfl⟩
    have hli := F.called_set.init.lookup
    have hbi := F.called_set.init.bind (.ref s.heap.objs.size)
    repeat (any_goals (first | assumption | wp_step))
    refine codeAny_mono (codeAny_call_builtin (R := wants (fun r u => r = .none ∧ ∃ g tk, u = { s with heap := g, toks := tk } ∧ Cnt P w g s.heap.objs.size xs ∧ ∀ b o, s.heap.get? b = some o → g.get? b = some o) E) F.called_set.init.plain F.entry_set_init (check_set_init_1 hT ?_)) fun r2 u hr2 => ?_
    · obtain ⟨⟨ocls, odict, odata, osl⟩, hol, hcl, nl, hdl⟩ := hl
      simp only at hcl hdl
      subst hcl; subst hdl
      have hol' : (s.heap.push (frS w)).get? l = some { cls := .type "tuple", dict := odict, data := .seq items nl, slots := osl } := Heap.get?_push_of_some _ hol
      have hsls := F.sub_tuple_set
      have hslf := F.sub_tuple_frozenset
      have hne : (Value.type "tuple" == Value.type "dict") = false := by decide
      have hl1 : (s.heap.push (frS w)).IsTuple l items := ⟨_, hol', rfl, nl, rfl⟩
      unfold Builtin.«set.__init__» noKeywords Builtin.Frozenset.updateFrom
      generalize hPI : pyIter = PI
      wp_walk
      subst hPI
      refine wpAny_pyIter_tuple hl1 ?_
      refine wpAny_bind (wpAny_runValue ?_)
      have ls : l < s.heap.objs.size := Heap.lt_size hol
      have z1 : (s.heap.push (frS w)).objs.size = s.heap.objs.size + 1 := Heap.size_push ..
      have nI : l ≠ (s.heap.push (frS w)).objs.size := by rw [z1]; exact Nat.ne_of_lt (Nat.lt_succ_of_lt ls)
      have nS : s.heap.objs.size ∉ [(s.heap.push (frS w)).objs.size, l] := by
        rw [z1]; simp only [List.mem_cons, List.not_mem_nil, or_false, not_or]
        exact ⟨Nat.ne_of_lt (Nat.lt_succ_self _), Nat.ne_of_gt ls⟩
      refine upd_txt ((Walks.tuple (by simp [hh]) _ l nI items).toS) nS sz hb (fun i v hv => ?_) (items.size - 0) 0 _ (by omega) (Nat.zero_le _) ⟨⟨_, Heap.get?_push_size _ rfl, rfl, rfl⟩, (hl1.push _)⟩ ?start ?fin
      · exact txt_at hit i v (by rw [Array.getElem?_toList]; exact hv)
      case start =>
        refine ⟨0, ?_, Nat.le_refl _, by simp⟩
        refine SetOf_congr ((setObjOf_fresh (knd := strKind P w) (!w.params.followText "set-order")).setOf (h := (s.heap.push (frS w)).push _) (Heap.get?_push_of_some _ hS) (by decide)) (fun k => ?_) rfl
        simp
      case fin =>
        intro u mv C
        obtain ⟨g, g2, d, tk, os⟩ := u
        have eg : g2 = s.gens := mv.gens
        have ed : d = s.drawn := mv.drawn
        have eo : os = s.os := mv.os
        subst eg; subst ed; subst eo
        show wpAny _ _ _ _ _ _
        refine wpAny_pure ?_
        show wpAny _ _ (ret Value.none) _ _ _
        refine wpAny_pure ⟨rfl, g, tk, rfl, C, fun b o e => ?_⟩
        have lb : b < s.heap.objs.size := Heap.lt_size e
        refine mv.heap b o (fun m => ?_) (Heap.get?_push_of_some _ (Heap.get?_push_of_some _ e))
        rcases List.mem_cons.mp m with m | m
        · exact absurd lb (by rw [m]; exact Nat.lt_irrefl _)
        · exact absurd lb (by rw [List.mem_singleton.mp m, z1]; exact Nat.not_lt_of_le (Nat.le_succ _))
    · match r2, hr2 with
      | .error e, hr2 => exact hr2
      | .ok (.ret r), hr2 =>
        obtain ⟨rfl, g, tk, rfl, C, k⟩ := hr2
        repeat (any_goals (first | assumption | wp_step))
        exact h _ _ C k
end
section
variable {X : Cx}
/-- len(set(xs)) -/
def tLenSetX (K : PySem.W.Frag) (ta : TE) : TE := fun σ H Q => ta σ H fun x H1 => ∃ l, ∃ xs : List Str, x = .ref l ∧ SqT K H1 l (xs.map V.str) ∧ xs.length < 64 ∧ ∀ n : Nat, (n = xs.length ↔ xs.Nodup) → Q (.int n) H1
theorem pe_lenSetX {a : Expr} {ta : TE} {p p2 q pos : Pos} (hc : X.calm = true) (hg : Gl X "len") (hm : X.mg "len" = none) (hg2 : Gl X "set") (hm2 : X.mg "set" = none) (ha : PE X a ta) (na : starEach [a] X.env = (false, eval a X.env) :: starEach [] X.env := by rfl) :
    PE X (.Call (.Name "len" p) [.Call (.Name "set" p2) [a] [] q] [] pos) (tLenSetX X.K ta) := by
  refine ⟨fun pins s σ H Q I h => Call_ (ld_blt I hg hm boot_len ?_)⟩
  refine PyProof.Rows.callWith_builtin1 (PyProof.Rows.args_cons (Call_ (ld_blt I hg2 hm2 boot_set ?_)) rfl) rfl rfl
  refine PyProof.Rows.callWith_type1 (PyProof.Rows.args_cons (thn (ha.run pins s σ H _ I h) fun v t ⟨x, G, J, rx, w⟩ => PyProof.Rows.args_nil ?_) na) na rfl
  obtain ⟨l, xs, rfl, hq, lt, fine⟩ := w
  obtain rfl : v = .ref l := rx
  obtain ⟨its, r, pl, _⟩ := J.tuple hq
  have sb : (64 : Nat) < scanBound := by decide
  refine call_set_tupT xs (J.ok.hd hc) pl (by simpa using strsAre_of r) (by omega) fun g tk C k => PyProof.Rows.args_nil ?_
  obtain ⟨n, ⟨o, es, ep, tb, ho, hex, hd, _, _, _, hf, hn⟩, le, iff⟩ := C
  have J2 : Inv X pins σ G { t with heap := g, toks := tk } := J.kept fun b o e => k b o e
  exact call_len_set ho hex hd hf (by rw [hn] <;> omega) ⟨.int n, G, J2.tok _, ⟨_, by rw [hn]⟩, fine n iff⟩
end
end N32
set_option Elab.async false
set_option linter.all false
set_option maxRecDepth 100000
set_option maxHeartbeats 4000000
/-! sorted(entries, key=since_of), the entries in their order already. -/
namespace N32
open PySem PySem.Spec PyProof.Rows L2
abbrev n_since_of : List Str := ["entry"]
theorem sc_since_of : FnScope n_since_of ["entry"] (defScope s_since_of) := C8.fnScope_by (by decide +kernel)
def sp_since_of (K : PySem.W.Frag) : Sp := fun vs H Q _ => ∃ (t : Addr) (p s l u : V) (n : Int), vs = [.ref t] ∧ SqT K H t [p, s, .int n, l, u] ∧ ∀ T, H T = none → Q (.ref T) (upd H T (.tup [.int n]))
section
variable {P : Program} {w : World} {K : PySem.W.Frag} {mg : Str → Option Value} {base : Heap}
theorem ok_since_of (T : Ctx K mg) : C8.Cal P w K mg base 1 "since_of" (sp_since_of K) [] := by
  refine cal_of T.f_since_of (T.glo _ (by decide)) (N := n_since_of) sc_since_of (fun _ _ _ _ _ _ us hl => match us, hl with | [_], _ => rfl) (fun vs H Q E h => ?len) (fun cdv A outer s H vs Q E hr h => ?body)
  case len =>
    obtain ⟨_, _, _, _, _, _, rfl, _⟩ := h
    rfl
  case body =>
    obtain ⟨t, p, s0, l, u, n, rfl, ht, k⟩ := h
    refine ⟨_, pss_one (ps_ret (pe_tup (pa_cons (pe_ix ix_tup (pv 0) pe_int (fun _ _ => rfl)) pa_nil))), ?_⟩
    exact ⟨_, rfl, ⟨t, _, 2, .int n, rfl, rfl, ht, rfl, small64 (show 1 < 64 by decide), fun T hT => k T hT⟩⟩
end
section
variable {X : Cx}
/-- sorted(entries, key=since_of), the entries in their order already -/
def rSortedX (K : PySem.W.Frag) : List V → List V → Hp → VK → Prop := fun vs zs H Q => ∃ (a : Addr) (xs : List V) (ks : List Int), vs = [V.ref a] ∧ zs = [.ref (He.ga K "since_of")] ∧ SqL K H a xs ∧ xs.length < 64 ∧ ks.length = xs.length ∧ ks.Pairwise (· < ·) ∧
  (∀ (i : Nat) (x : V) (n : Int), xs[i]? = some x → ks[i]? = some n → ∃ t p s l u, x = .ref t ∧ SqT K H t [p, s, .int n, l, u]) ∧ ∀ p H', Same H H' → H p = none → H' p = some (.lst xs) → Q (.ref p) H'
/-- a call that lets nothing out -/
theorem run_at0 {A : Around} {k : Nat} {f : Addr} {fd : FuncData} {ps : List Str} {sp : Sp} {pins : List (Addr × Obj)} {σ : L2.St} {H : Hp} {s : Shared} {Q : VK} {us : List Value} {vs : List V}
    (F : FnOk X.prog X.w X.K X.mg X.base C8.CX0 k f fd ps sp) (hr : Room k A) (he : Env0 X.prog X.w X.K X.mg X.base A X.stack s H) (hb : Binds X.K fd ps []) (I : Inv X pins σ H s) (r : Vals vs us) (h : sp vs H Q C8.E0) :
    wpAny (model X.prog X.w) A (call (.ref f) us) (EP X pins σ Q) (fun _ _ => False) s := by
  have hl : us.length = ps.length := r.length.symm.trans (F.len _ _ _ _ h)
  have b := hb s us I.kIn (by rw [List.append_nil]; exact hl)
  rw [List.append_nil] at b
  refine wpAny_call (codeAny_mono (F.run A X.stack s H ⟨us, []⟩ us vs Q C8.E0 hr he b r h) ?_)
  rintro (e | fl) s2 hq
  · exact hq.elim
  · cases fl <;> first | exact I.after hq | exact hq.elim
theorem room2 {k : Nat} {A : Around} (r : Room (k + 1) A) : Room k A.in1.in1 :=
  ⟨r.hd, by have := r.dp; show A.depth + 3 * k + 5 < _; omega, by have := r.un; show A.units + 1 + 1 + 16 * k + 200 < _; omega⟩
/-- the object at a is just so -/
def justO (a : Addr) (o : Obj) : HO := .ext fun h => h.get? a = some o
theorem justO_ok {P : Program} {w : World} {H : Hp} {h : Heap} {a : Addr} {o : Obj} (e : h.get? a = some o) : ObjOk P w H h a (justO a o) := ⟨e, ⟨_, e⟩, fun _ _ p k => k _ p⟩
def kTups (H : Hp) (ts : List Addr) (ks : List Int) : Prop := ∀ (j : Nat) (t : Addr) (n : Int), ts[j]? = some t → ks[j]? = some n → H t = some (.tup [.int n])
theorem sqT_up {K : PySem.W.Frag} {H H' : Hp} {a : Addr} {xs : List V} (e : Same H H') (h : SqT K H a xs) : SqT K H' a xs := by
  rcases h with (h | ⟨o, h⟩) | h
  · exact .inl (.inl (e _ _ h))
  · exact .inl (.inr ⟨o, e _ _ h⟩)
  · exact .inr h
theorem same_put {H : Hp} {a : Addr} {o : HO} (h : H a = none) : Same H (upd H a o) := fun b o' e => by
  rw [upd_ne (fun z => by rw [z, h] at e; cases e)]
  exact e
theorem cr_sortedX {j : Nat} (T : Ctx X.K X.mg) (hr : Room j X.A) (hk : 2 ≤ j := by decide) : CallRK X (.builtin "sorted") [Str.ofString "key"] (rSortedX X.K) := by
  rintro pins s σ H vs zs us ws Q I r rz ⟨a, xs, ks, rfl, rfl, hs, h64, hkl, hkp, hx, q⟩
  obtain rfl := Vals.ref1 r
  obtain ⟨w1, rfl, e1⟩ := vals1 rz
  obtain rfl : w1 = Value.ref (He.ga X.K "since_of") := e1
  obtain ⟨its, rv, pl, hz⟩ := I.list hs
  have hil : its.length = xs.length := rv.length.symm
  have hiz : its.length ≤ sizeLine := by rw [hil]; exact hz
  obtain ⟨f, fd, ps, ds, F, hm, kp, hb, hd⟩ := (ok_since_of (P := X.prog) (w := X.w) (base := X.base) T).ex
  cases hd
  have ef : f = He.ga X.K "since_of" := by
    have z := hm.symm.trans (T.glo "since_of" (by decide))
    injection z with z
    injection z
  subst ef
  have ro : Room 1 X.A.in1.in1 := room2 (hr.mono hk)
  refine PySem.W.sorted_of_sort pl.isList hiz (ksk_s1 _ _) (fun _ => ksk_l1 _ _) fun E' => ?_
  show wpAny _ _ (Builtin.«list.sort» ⟨[.ref (s.heap.objs.size + 1)], [(Str.ofString "key", .ref (He.ga X.K "since_of"))]⟩) _ _ _
  rw [ksk_t1]
  have hoL := PySem.W.copyHeap_at s.heap its
  generalize eL : s.heap.objs.size + 1 = L at hoL ⊢
  have hL0 : s.heap.objs.size ≤ L := by rw [← eL]; exact Nat.le_succ _
  have nL : H L = none := I.hok.fresh hL0
  unfold ksk_tree
  refine wpAny_bind (listItems_at hoL rfl ?_)
  refine wpAny_bind (listUpdate_at hoL rfl ?_ (by rw [List.size_toArray]; exact hiz) (Nat.zero_le _))
  obtain ⟨e1, ho1⟩ : ∃ e1, ((PySem.W.copyHeap s.heap its).update L (Obj.mapSeq fun _ => #[])).get? L = some (seqObj "list" #[] e1) := ⟨_, get?_update_seq hoL fun _ => #[]⟩
  refine wpAny_bind (seqEpoch_at ho1 rfl ?_)
  refine wpAny_bind (wpAny_newTuple ?_ (by show its.length ≤ _; exact hiz))
  refine wpAny_bind (wpAny_newList ?_ (Nat.zero_le _))
  refine wpAny_holding ?_
  generalize eg : ((PySem.W.copyHeap s.heap its).update L (Obj.mapSeq fun _ => #[])).push (seqObj "tuple" its.toArray 0) = g
  have keep0 : ∀ b o, s.heap.get? b = some o → g.get? b = some o := fun b o e => by
    rw [← eg]
    refine Heap.get?_push_of_some _ ((Heap.get?_update_ne _ _ _ _ fun z => ?_).trans (PySem.W.copyHeap_old e))
    have lt := Heap.lt_size e
    rw [z] at lt
    exact absurd lt (Nat.not_lt_of_le hL0)
  have gL : g.get? L = some (seqObj "list" #[] e1) := by rw [← eg]; exact Heap.get?_push_of_some _ ho1
  have gsz : s.heap.objs.size ≤ g.objs.size := by
    rcases Nat.lt_or_ge g.objs.size s.heap.objs.size with h | h
    · exact absurd (Nat.lt_of_le_of_lt hL0 (Heap.lt_size gL)) (Nat.not_lt_of_lt h)
    · exact h
  show wpAny _ _ (ksk_rest L (.ref (He.ga X.K "since_of")) false its.toArray e1 (.ref g.objs.size)) _ _ { s with heap := g.push (seqObj "list" #[] 0) }
  generalize ekS : g.objs.size = kS
  have ne : kS ≠ L := by rw [← ekS]; exact Nat.ne_of_gt (Heap.lt_size gL)
  have hS0 : (g.push (seqObj "list" #[] 0)).get? kS = some (seqObj "list" #[] 0) := by rw [← ekS]; exact Heap.get?_push_size _ rfl
  have J1 : Inv X pins σ (upd H L (justO L (seqObj "list" #[] e1))) { s with heap := g } := I.laid (t' := s.toks) keep0 hL0 (justO_ok gL)
  have nS : upd H L (justO L (seqObj "list" #[] e1)) kS = none := J1.hok.fresh (by rw [← ekS]; exact Nat.le_refl _)
  have J2 : Inv X pins σ (upd (upd H L (justO L (seqObj "list" #[] e1))) kS (.lst [])) { s with heap := g.push (seqObj "list" #[] 0) } :=
    J1.laid (t' := s.toks) (fun b o e => Heap.get?_push_of_some _ e) (by rw [← ekS]; exact Nat.le_refl _) ⟨Nat.zero_le _, [], 0, .nil, hS0⟩
  have hSH : H kS = none := by rw [upd_ne ne] at nS; exact nS
  unfold ksk_rest
  refine wpAny_bind (wpAny_rule ?_)
  rw [List.forIn_toArray]
  refine wpAny_bind (ksk_fold (fun i s' => ∃ G ts, Inv X pins σ G s' ∧ Same H G ∧ G L = some (justO L (seqObj "list" #[] e1)) ∧ G kS = some (.lst (ts.map V.ref)) ∧ ts.length = i ∧ kTups G ts ks) its 0 _
    ⟨_, [], J2, (same_put nL).trans (same_put nS), by rw [upd_ne ne.symm, upd_same], upd_same, rfl, fun j t n h => by simp at h⟩ ?step ?done)
  case step =>
    rintro i u s' hu ⟨G, ts, JG, sG, GL, GS, tl, kt⟩
    rw [Nat.zero_add] at tl
    have hi : i < its.length := (List.getElem?_eq_some_iff.mp hu).1
    obtain ⟨n, hn⟩ : ∃ n, ks[i]? = some n := ⟨_, List.getElem?_eq_getElem (by omega)⟩
    obtain ⟨xv, hxv⟩ : ∃ xv, xs[i]? = some xv := ⟨_, List.getElem?_eq_getElem (by omega)⟩
    obtain ⟨t, p, z, l, v, rfl, ht⟩ := hx i xv n hxv hn
    obtain ⟨u', hu', ru⟩ := rv.get hxv
    rw [hu] at hu'
    cases hu'
    obtain rfl : u = .ref t := ru
    refine wpAny_bind (wpAny_attempt (wpAny_mono (run_at0 (Q := fun v G2 => ∃ T, v = .ref T ∧ G T = none ∧ G2 = upd G T (.tup [.int n])) F ro JG.env0.in1.in1 hb JG (show Vals [V.ref t] [Value.ref t] from .cons rfl .nil) ⟨t, p, z, l, v, n, rfl, sqT_up sG ht, fun T hT => ⟨T, rfl, hT, rfl⟩⟩) (fun y s2 hy => ?_) fun _ _ hF => hF.elim))
    obtain ⟨y', G2, J3, ry, T0, rfl, hT, rfl⟩ := hy
    obtain rfl : y = .ref T0 := ry
    have tS : T0 ≠ kS := fun z => by rw [z, GS] at hT; cases hT
    have tL : T0 ≠ L := fun z => by rw [z, GL] at hT; cases hT
    have GS2 : upd G T0 (.tup [.int n]) kS = some (.lst (ts.map V.ref)) := by rw [upd_ne tS.symm]; exact GS
    obtain ⟨z1, kts, c, rk, kl, e0⟩ := J3.lstM GS2
    have tb : ts.length < 64 := by omega
    have z2 : ((ts ++ [T0]).map V.ref).length ≤ sizeLine := by rw [List.length_map, List.length_append, List.length_singleton]; exact small64 (by omega)
    try dsimp only
    refine wpAny_bind (listUpdate_at e0 rfl ?_ (by rw [List.size_toArray, ← kl]; exact z1) (by rw [Array.size_push, List.size_toArray, ← kl]; exact Nat.succ_le_succ z1))
    have J4 := J3.lset (its' := kts ++ [.ref T0]) (f := (·.push (.ref T0))) (t' := s2.toks) (ys := (ts ++ [T0]).map V.ref) GS2 e0 (by simp) (by rw [List.map_append]; exact rk.append (.cons rfl .nil)) z2
    refine wpAny_pure ⟨rfl, _, ts ++ [T0], J4, fun b o e => ?_, ?_, upd_same, by rw [List.length_append, List.length_singleton, tl]; omega, fun j t' n' hj hn' => ?_⟩
    · have b1 : b ≠ kS := fun z => by rw [z, hSH] at e; cases e
      have b2 : b ≠ T0 := fun z => by rw [← z, sG b o e] at hT; cases hT
      rw [upd_ne b1, upd_ne b2]
      exact sG b o e
    · rw [upd_ne ne.symm, upd_ne tL.symm]
      exact GL
    · rcases Nat.lt_or_ge j ts.length with lt | ge
      · rw [List.getElem?_append_left lt] at hj
        have e := kt j t' n' hj hn'
        rw [upd_ne (fun z => by rw [z, GS] at e; cases e), upd_ne (fun z => by rw [z, hT] at e; cases e)]
        exact e
      · have ej : j = ts.length := by
          have := (List.getElem?_eq_some_iff.mp hj).1
          rw [List.length_append, List.length_singleton] at this
          omega
        subst ej
        rw [List.getElem?_append_right (Nat.le_refl _), Nat.sub_self] at hj
        obtain rfl : T0 = t' := Option.some.inj hj
        rw [tl, hn] at hn'
        obtain rfl : n = n' := Option.some.inj hn'
        rw [upd_ne tS]
        exact upd_same
  case done =>
    rintro s' ⟨G, ts, JG, sG, GL, GS, tl, kt⟩
    rw [Nat.zero_add] at tl
    obtain ⟨z1, kts, c, rk, kl, e0⟩ := JG.lstM GS
    rw [List.length_map] at kl
    refine wpAny_bind (listItems_at e0 rfl ?_)
    have hkv : ∀ (i : Nat) (v : Value), kts[i]? = some v → ∃ n, ks[i]? = some n ∧ IsInts s'.heap v [n] := fun i v hv => by
      have hi : i < kts.length := (List.getElem?_eq_some_iff.mp hv).1
      obtain ⟨t, ht⟩ : ∃ t, ts[i]? = some t := ⟨_, List.getElem?_eq_getElem (by omega)⟩
      obtain ⟨n, hn⟩ : ∃ n, ks[i]? = some n := ⟨_, List.getElem?_eq_getElem (by omega)⟩
      obtain ⟨v', hv', rv'⟩ := rk.get (i := i) (x := .ref t) (by rw [List.getElem?_map, ht]; rfl)
      rw [hv] at hv'
      cases hv'
      obtain rfl : v = .ref t := rv'
      obtain ⟨_, its2, r2, o, ho, hc, nn, hd⟩ := JG.hok _ _ (kt i t n ht hn)
      exact ⟨n, hn, t, o, its2.toArray, nn, rfl, ho, hc, hd, Vals.ints (ns := [n]) r2⟩
    have kz : kts.length = its.length := by omega
    have kI : ∀ (i : Nat) (v : Value) (n : Int), kts[i]? = some v → ks[i]? = some n → [(TS.intsOf s'.heap v).headD 0] = [n] := fun i v n hv hn => by
      obtain ⟨n', hn', a', o, xs', c', e, ho, hc, hd, hi⟩ := hkv i v hv
      rw [hn] at hn'
      cases hn'
      rw [TS.TupInts.ints (ns := [n]) ⟨a', xs', e, ⟨o, ho, hc, c', hd⟩, hi⟩]
      rfl
    have O : SrtO.Swo fun v u => lexI [(TS.intsOf s'.heap v).headD 0] [(TS.intsOf s'.heap u).headD 0] := ⟨fun x y h => lexI_swo.1 _ _ h, fun x y z h1 h2 => lexI_swo.2 [(TS.intsOf s'.heap x).headD 0] [(TS.intsOf s'.heap y).headD 0] [(TS.intsOf s'.heap z).headD 0] rfl rfl h1 h2⟩
    have zl : (kts.toArray.zip its.toArray).toList = kts.zip its := ksk_zip kts.toArray its
    have srt : SrtO.Srtd (SrtO.lt2 fun v u => lexI [(TS.intsOf s'.heap v).headD 0] [(TS.intsOf s'.heap u).headD 0]) (kts.toArray.zip its.toArray).toList := by
      rw [zl]
      refine List.pairwise_iff_getElem.mpr fun i j hi hj hij => ?_
      rw [List.length_zip] at hi hj
      rw [List.getElem_zip, List.getElem_zip]
      have hi2 : i < ks.length := by omega
      have hj2 : j < ks.length := by omega
      have ei := kI i _ _ (List.getElem?_eq_getElem (by omega)) (List.getElem?_eq_getElem hi2)
      have ej := kI j _ _ (List.getElem?_eq_getElem (by omega)) (List.getElem?_eq_getElem hj2)
      show lexI [(TS.intsOf s'.heap _).headD 0] [(TS.intsOf s'.heap _).headD 0] = false
      rw [ei, ej]
      have lt := List.pairwise_iff_getElem.mp hkp i j hi2 hj2 hij
      unfold lexI
      rw [if_neg (by omega)]
      exact decide_eq_false (by omega)
    have tail : ∀ st' : SortSt, arrOf st' = kts.toArray.zip its.toArray → failedOf st' = none → wpAny (model X.prog X.w) X.A.in1.in1 (ksk_tail L false e1 (.ref kS) st') (fun f s2 => f = .done (.ret .none) ∧ EP X pins σ Q (.ref L) s2) E' s' := fun st' h1 h2 => by
      have em : (arrOf st').map (·.2) = its.toArray := by
        rw [h1]
        apply Array.ext'
        rw [Array.toList_map, zl, List.map_snd_zip (by omega)]
      unfold ksk_tail
      try dsimp only
      rw [em]
      refine wpAny_bind (listUpdate_at e0 rfl ?_ (by rw [List.size_toArray, ← kl, tl]; exact hiz) (Nat.zero_le _))
      have K1 := JG.lset (its' := []) (f := fun _ => #[]) (t' := s'.toks) (ys := []) GS e0 rfl .nil (Nat.zero_le _)
      have GL1 : upd G kS (.lst []) L = some (justO L (seqObj "list" #[] e1)) := by rw [upd_ne ne.symm]; exact GL
      have gL1 : (s'.heap.update kS (Obj.mapSeq fun _ => #[])).get? L = some (seqObj "list" #[] e1) := (K1.hok L _ GL1).1
      refine wpAny_bind (wpAny_letGo ?_)
      refine wpAny_bind (seqEpoch_at gL1 rfl ?_)
      refine wpAny_bind (listUpdate_at gL1 rfl ?_ (Nat.zero_le _) (by show its.toArray.size ≤ _; rw [List.size_toArray]; exact Nat.le_succ_of_le hiz))
      rw [h2]
      simp only [bne_self_eq_false, Bool.false_eq_true, if_false]
      obtain ⟨c2, hc2⟩ : ∃ c2, ((s'.heap.update kS (Obj.mapSeq fun _ => (#[] : Array Value))).update L (Obj.mapSeq fun _ => its.toArray)).get? L = some (seqObj "list" its.toArray c2) := ⟨_, get?_update_seq gL1 fun _ => its.toArray⟩
      refine wpAny_pure ⟨rfl, .ref L, upd (upd G kS (.lst [])) L (.lst xs), ?_, rfl, q L _ (fun b o e => ?_) nL upd_same⟩
      · exact K1.write (x := L) (e := L) (t' := s'.toks) (by rw [GL1]; trivial) (.inl rfl) (fun b u hb hu => (Heap.get?_update_ne _ _ _ _ hb).trans hu) ⟨_, hc2⟩ ⟨hz, its, c2, rv, hc2⟩
      · rw [upd_ne (fun z => by rw [z, nL] at e; cases e), upd_ne (fun z => by rw [z, hSH] at e; cases e)]
        exact sG b o e
    show wpAny _ _ (ksk_end L false its.toArray e1 (.ref kS) kts.toArray) _ _ _
    unfold ksk_end
    simp only [Bool.false_eq_true, if_false]
    by_cases h2 : its.toArray.size < 2
    · rw [if_pos h2, if_pos h2]
      refine wpAny_bind (wpAny_pure ?_)
      rw [StateT.run_pure]
      refine wpAny_bind (wpAny_pure ?_)
      exact tail _ rfl rfl
    · rw [if_neg h2, if_neg h2]
      rw [List.size_toArray] at h2
      have hv1 : ∀ v ∈ kts, IsInts s'.heap v [(TS.intsOf s'.heap v).headD 0] ∧ [(TS.intsOf s'.heap v).headD 0].length = 1 := fun v hv => by
        obtain ⟨i, hi⟩ := List.mem_iff_getElem?.mp hv
        obtain ⟨n, hn, z⟩ := hkv i v hi
        refine ⟨?_, rfl⟩
        rw [kI i v n hi hn]
        exact z
      have hv2 : ∀ o, s'.heap.get? L = some o → o.cls ≠ .type "tuple" := fun o e => by
        have z := (JG.hok L _ GL).1
        rw [z] at e
        cases e
        exact fun y => absurd y (show ¬ (Value.type "list" = Value.type "tuple") by decide)
      obtain ⟨κ, hkind, hT⟩ := ints_sortable (prog := X.prog) (w := X.w) (A := X.A.in1.in1) (s := s') (a := L) (vs := kts) (k := fun v => [(TS.intsOf s'.heap v).headD 0]) (d := 1) (by omega) (by decide) hv1 hv2 s'.heap fun _ _ _ e => e
      · refine wpAny_bind (hkind _ _ ?_)
        refine wpAny_bind (wpAny_mono (SrtO.wpS_sortO (st0 := SortSt.mk' κ (kts.toArray.zip its.toArray) #[] 7 none) (Q := fun _ st' => arrOf st' = kts.toArray.zip its.toArray ∧ failedOf st' = none) (SrtO.swo2 O) hT rfl (fun p hm => ?_) rfl rfl fun st' a1 a2 a3 => ⟨Array.ext' (SrtO.stb_uniq (SrtO.swo2 O) a1 srt a2), a3⟩) ?_ fun _ _ e => e)
        · have hm' : p ∈ kts.zip its := by rw [← zl]; exact hm
          exact (List.of_mem_zip hm').1
        · rintro ⟨⟨⟩, st'⟩ s2 ⟨rfl, h3, h4⟩
          exact tail st' h3 h4
end
end N32
set_option Elab.async false
set_option linter.all false
set_option maxRecDepth 100000
set_option maxHeartbeats 4000000
namespace N32
open PySem PySem.Spec PyProof.Rows L2
theorem const_of {mg : Str → Option Value} {x : Str} {i : Int} (h : ∃ t, mg x = some (.int i t)) : ∃ u, mg x = some u ∧ RelV (.int i) u := let ⟨t, e⟩ := h; ⟨_, e, t, rfl⟩
theorem const_ofS {mg : Str → Option Value} {x z : Str} (h : ∃ t, mg x = some (.str z t)) : ∃ u, mg x = some u ∧ RelV (.str z) u := let ⟨t, e⟩ := h; ⟨_, e, t, rfl⟩
section
variable {X : Cx}
/-! ### K told by its name -/
theorem op_in_seqK {K : PySem.W.Frag}  (hK : X.K = K := by rfl) : OpR X (compareOp .In) (rIn K false) := by
  subst hK
  exact op_in_seq
theorem op_notIn_seqK {K : PySem.W.Frag}  (hK : X.K = K := by rfl) : OpR X (compareOp .NotIn) (rIn K true) := by
  subst hK
  exact op_notIn_seq
theorem op_eqDK {K : PySem.W.Frag} (hu : X.A.units + 64 < cLine) (hK : X.K = K := by rfl) : OpR X (compareOp .Eq) (rEqD K) := by
  subst hK
  exact op_eqD hu
theorem op_neDK {K : PySem.W.Frag} (hu : X.A.units + 64 < cLine) (hK : X.K = K := by rfl) : OpR X (compareOp .NotEq) (rNeD K) := by
  subst hK
  exact op_neD hu
theorem op_catAK {K : PySem.W.Frag}  (hK : X.K = K := by rfl) : OpR X (binaryOp .Add) (rCatA K) := by
  subst hK
  exact op_catA
theorem ix_listK {K : PySem.W.Frag}  (hK : X.K = K := by rfl) : IxR X (rIxL K) := by
  subst hK
  exact ix_list
theorem ix_tupK {K : PySem.W.Frag}  (hK : X.K = K := by rfl) : IxR X (rIxT K) := by
  subst hK
  exact ix_tup
theorem sl_listK {K : PySem.W.Frag}  (hK : X.K = K := by rfl) : SlR X (rSlL K) := by
  subst hK
  exact sl_list
theorem sl_tupAK {K : PySem.W.Frag}  (hK : X.K = K := by rfl) : SlR X (rSlA K) := by
  subst hK
  exact sl_tupA
theorem call_len_seqK {K : PySem.W.Frag}  (hK : X.K = K := by rfl) : CallR X (.builtin "len") (fun xs H Q => ∃ p ys, xs = [.ref p] ∧ (SqL K H p ys ∨ SqT K H p ys) ∧ Q (.int ys.length) H) := by
  subst hK
  exact call_len_seq
theorem call_list_ofK {K : PySem.W.Frag}  (hK : X.K = K := by rfl) : CallR X (.type "list") (fun xs H Q => ∃ p ys, xs = [.ref p] ∧ (SqL K H p ys ∨ SqT K H p ys) ∧ ∀ l, H l = none → Q (.ref l) (upd H l (.lst ys))) := by
  subst hK
  exact call_list_of
theorem call_tuple_ofK {K : PySem.W.Frag}  (hK : X.K = K := by rfl) : CallR X (.type "tuple") (fun xs H Q => ∃ p ys, xs = [.ref p] ∧ ((SqL K H p ys ∧ ∀ l, H l = none → Q (.ref l) (upd H l (.tup ys))) ∨ (SqT K H p ys ∧ Q (.ref p) H))) := by
  subst hK
  exact call_tuple_of
theorem call_isiK {K : PySem.W.Frag}  (hK : X.K = K := by rfl) : CallR X (.builtin "isinstance") (rIsi K) := by
  subst hK
  exact call_isi
theorem call_isiTK {K : PySem.W.Frag}  (hK : X.K = K := by rfl) : CallR X (.builtin "isinstance") (rIsiT K) := by
  subst hK
  exact call_isiT
theorem cr_allK {K : PySem.W.Frag} (hc : X.calm = true) (hK : X.K = K := by rfl) : CallR X (.builtin "all") (rAll K) := by
  subst hK
  exact cr_all hc
theorem cr_sumK {K : PySem.W.Frag} (hc : X.calm = true) (hK : X.K = K := by rfl) : CallR X (.builtin "sum") (rSum K) := by
  subst hK
  exact cr_sum hc
theorem cr_maxK {K : PySem.W.Frag} (hc : X.calm = true) (hK : X.K = K := by rfl) : CallR X (.builtin "max") (rMax K) := by
  subst hK
  exact cr_max hc
theorem op_eqNilK {K : PySem.W.Frag} (hu : X.A.units < cLine) (hK : X.K = K := by rfl) : OpR X (compareOp .Eq) (fun x y H Q => ∃ a b xs, x = .ref a ∧ y = .ref b ∧ SqL K H a xs ∧ SqL K H b [] ∧ Q (.bl xs.isEmpty) H) := by
  subst hK
  exact op_eqNil hu
theorem pe_fldK {K : PySem.W.Frag} {e : Expr} {f : Str} {pos : Pos} {ta : TE} (he : PE X e ta) (hK : X.K = K := by rfl) (hb : attributeBase e f X.env (eval e X.env) = eval e X.env := by rfl) : PE X (.Attribute e f pos) (tFld K ta f) := by
  subst hK
  exact pe_fld he hb
theorem pe_slK {K : PySem.W.Frag} {e : Expr} {f : Str} {pos : Pos} {ta : TE} (he : PE X e ta) (hK : X.K = K := by rfl) (hb : attributeBase e f X.env (eval e X.env) = eval e X.env := by rfl) : PE X (.Attribute e f pos) (SlX.tSl K ta f) := by
  subst hK
  exact SlX.pe_sl he hb
theorem ps_slK {K : PySem.W.Frag} {o value : Expr} {f : Str} {pos pos' : Pos} {ta tv : TE} (ha : PE X o ta) (hv : PE X value tv) (hK : X.K = K := by rfl) (hs : swapsWith value (some (.Attribute o f pos')) pos.line X.env = pure false := by rfl) : PS X (.Assign [.Attribute o f pos'] value pos) (SlX.sSl K ta tv f) := by
  subst hK
  exact SlX.ps_sl ha hv hs
theorem ps_fldK {K : PySem.W.Frag} {o value : Expr} {f : Str} {pos pos' : Pos} {ta tv : TE} (ha : PE X o ta) (hv : PE X value tv) (hK : X.K = K := by rfl) (hs : swapsWith value (some (.Attribute o f pos')) pos.line X.env = pure false := by rfl) : PS X (.Assign [.Attribute o f pos'] value pos) (sFld K ta tv f) := by
  subst hK
  exact ps_fld ha hv hs
theorem ps_fldaugK {K : PySem.W.Frag} {o value : Expr} {op : Operator} {f : Str} {pos tpos : Pos} {ta tv : TE} {rd} (ha : PE X o ta) (hv : PE X value tv) (hop : InOp X op rd) (hK : X.K = K := by rfl) : PS X (.AugAssign (.Attribute o f tpos) op value pos) (sFldAug K ta tv rd f) := by
  subst hK
  exact ps_fldaug ha hv hop
theorem pi_listK {K : PySem.W.Frag} {tg l : Expr} {tl : TE} (h : PE X l tl) (hK : X.K = K := by rfl) : PI X tg l (iList K tl) := by
  subst hK
  exact pi_list h
theorem pi_tupK {K : PySem.W.Frag} {tg l : Expr} {tl : TE} (h : PE X l tl) (hK : X.K = K := by rfl) : PI X tg l (iTup K tl) := by
  subst hK
  exact pi_tup h
theorem pe_bmK {K : PySem.W.Frag} {T id : String} {name : Str} {o e : Expr} {es : List Expr} {apos cpos : Pos} {r : V → List V → Hp → VK → Prop} {to : TE} {t : TA} (pa : PlainAttrs T) (slot : Slot T name id) (hty : typeOf (.builtin id) = pure (.type "method_descriptor")) (hm : MtR X id r) (ho : PE X o to) (ha : PA X (e :: es) t) (hK : X.K = K := by rfl)
    (hbase : attributeBase o name X.env (eval o X.env) = eval o X.env := by rfl)
    (hfew : ((backTo cpos (starEach (e :: es) X.env)).all (fun x => !x.1) && (backToKw cpos (keywordEach [] X.env)).all (fun x => x.1.isSome)
      && decide ((e :: es).length + ([] : List Keyword).length + (if ([] : List Keyword).isEmpty then 0 else 1) < 30)) = true := by rfl)
    (hline : (apos.endLine == cpos.line) = true := by rfl) (hs : starEach (e :: es) X.env = (false, eval e X.env) :: starEach es X.env := by rfl) (hplain : (backTo cpos (starEach es X.env)).any (·.1) = false := by rfl) :
    PE X (.Call (.Attribute o name apos) (e :: es) [] cpos) (tBM K T r to t) := by
  subst hK
  exact pe_bm pa slot hty hm ho ha hbase hfew hline hs hplain
theorem pg_tupK {K : PySem.W.Frag} {es : List Expr} {k : Nat} {pos : Pos} {t : TGs} {n : Nat} (hc : X.calm = true) (h : PGs X es t) (hK : X.K = K := by rfl)
    (hn : (assignEach es X.env).length = n := by rfl) (hst : (assignEach es X.env).findIdx? (·.1) = none := by rfl) : PG X (.Tuple es k pos) (gTup K n t) := by
  subst hK
  exact pg_tup hc h hn hst
theorem pe_orTK {K : PySem.W.Frag} {a b : Expr} {rest : List Expr} {pos : Pos} {ta tb : TE} (ha : PE X a ta) (hb : PE X (.BoolOp .Or (b :: rest) pos) tb) (hK : X.K = K := by rfl) : PE X (.BoolOp .Or (a :: b :: rest) pos) (tOrT K ta tb) := by
  subst hK
  exact pe_orT ha hb
theorem pi_zipK {K : PySem.W.Frag} {e e2 : Expr} {ta : TA} {p pos tpos : Pos} {elts : List Expr} {kk : Nat} (hg : Gl X "zip") (hm : X.mg "zip" = none) (ha : PA X [e, e2] ta) (hK : X.K = K := by rfl)
    (hs : starEach [e, e2] X.env = (false, eval e X.env) :: starEach [e2] X.env := by rfl) (hpl : (backTo pos (starEach [e2] X.env)).any (·.1) = false := by rfl) :
    PI X (.Tuple elts kk tpos) (.Call (.Name "zip" p) [e, e2] [] pos) (iZip K ta) := by
  subst hK
  exact pi_zip hg hm ha hs hpl
theorem pi_enumK {K : PySem.W.Frag} {e : Expr} {ta : TA} {p pos tpos : Pos} {elts : List Expr} {kk : Nat} (hg : Gl X "enumerate") (hm : X.mg "enumerate" = none) (ha : PA X [e] ta) (hK : X.K = K := by rfl) (hs : starEach [e] X.env = [(false, eval e X.env)] := by rfl) :
    PI X (.Tuple elts kk tpos) (.Call (.Name "enumerate" p) [e] [] pos) (iEnum K ta) := by
  subst hK
  exact pi_enum hg hm ha hs
theorem pa_starK {K : PySem.W.Frag} {e : Expr} {es : List Expr} {p : Pos} {te : TE} {t : TA} (he : PE X e te) (hr : PA X es t) (hK : X.K = K := by rfl) (hs : starEach (.Starred e p :: es) X.env = (true, eval e X.env) :: starEach es X.env := by rfl) : PA X (.Starred e p :: es) (StX.tStar K te t) := by
  subst hK
  exact StX.pa_star he hr hs
theorem pe_revLK {K : PySem.W.Frag} {e : Expr} {te : TE} {k : Nat} {p1 p2 p3 pos : Pos} (he : PE X e te) (hK : X.K = K := by rfl) : PE X (.Subscript e (.Slice none none (some (.UnaryOp .USub (.Constant (.int 1) k p1) p2)) p3) pos) (tRevL K te) := by
  subst hK
  exact pe_revL he
/-- a local name that holds one of some defs, called -/
def tCallR (i : Nat) (F : Nat → Addr) (n : Nat) (sp : Nat → Sp) (t : TA) : TE := fun σ H Q => ∃ r, r < n ∧ σ[i]? = some (some (.ref (F r))) ∧ t σ H fun vs H1 => sp r vs H1 Q C8.E0
theorem pe_callR {i n j k : Nat} {F : Nat → Addr} {sp : Nat → Sp} {x : Str} {p pos : Pos} {e : Expr} {es : List Expr} {t : TA} (A : ∀ r, r < n → C8.CalAt X.prog X.w X.K X.mg X.base k (F r) (sp r)) (hr : Room j X.A) (hk : k ≤ j) (hN : X.N[i]? = some x) (hv : Vis X.env.scope x) (ha : PA X (e :: es) t)
    (hdb : (x == ("__debug__" : Str)) = false := by decide) (hcd : (x == ("__classdict__" : Str)) = false := by decide)
    (he : starEach (e :: es) X.env = (false, eval e X.env) :: starEach es X.env := by rfl) (hpl : (backTo pos (starEach es X.env)).any (·.1) = false := by rfl) : PE X (.Call (.Name x p) (e :: es) [] pos) (tCallR i F n sp t) := by
  refine ⟨fun pins s σ H Q I h => ?_⟩
  obtain ⟨r, hlt, hs, ht⟩ := h
  obtain ⟨fd, ps, F1, hkp, hb⟩ := (A r hlt).ex
  refine (pe_callL (i := i) (f := F r) (sp := sp r) (dvs := []) (E := C8.E0) F1 (hr.mono hk) hN hv hkp hb .nil C8.pass0 ha hdb hcd he hpl).run pins s σ H Q I ⟨hs, ?_⟩
  have e0 : (fun (vs : List V) (H1 : Hp) => sp r (vs ++ []) H1 Q C8.E0) = fun vs H1 => sp r vs H1 Q C8.E0 := by
    funext vs H1
    rw [List.append_nil]
  show t σ H (fun vs H1 => sp r (vs ++ []) H1 Q C8.E0)
  rw [e0]
  exact ht
/-- a def by its name is one by its address -/
theorem calAt_of {P : Program} {w : World} {K : PySem.W.Frag} {mg : Str → Option Value} {base : Heap} {k j : Nat} {x : Str} {a : Addr} {sp : Sp} (c : C8.Cal P w K mg base k x sp []) (h : mg x = some (.ref a)) (hk : k ≤ j) : C8.CalAt P w K mg base j a sp := by
  obtain ⟨f, fd, ps, ds, F, hm, kp, b, d⟩ := c.ex
  rw [h] at hm
  cases hm
  cases d
  exact ⟨fd, ps, F.mono hk, kp, b⟩
/-- a method of a slotted class -/
structure MetSl (P : Program) (w : World) (K : PySem.W.Frag) (mg : Str → Option Value) (base : Heap) (k : Nat) (C : Addr) (m : Str) (sp : Sp) : Prop where
  ex : ∃ (f : Addr) (fd : FuncData) (ps : List Str), SlX.SCls K C ∧ Meth K C m f ∧ FnOk P w K mg base C8.CX0 k f fd ps sp ∧ Binds K fd ps []
theorem pe_mtSl {C : Addr} {m : Str} {k j : Nat} {sp : Sp} {pl : Sem Bool} {o e : Expr} {es : List Expr} {apos pos : Pos} {ta : TE} {t : TA} (c : MetSl X.prog X.w X.K X.mg X.base k C m sp) (hr : Room j X.A) (hk : k ≤ j) (ho : PE X o ta) (ha : PA X (e :: es) t)
    (hst : starEach (e :: es) X.env = (false, eval e X.env) :: starEach es X.env := by rfl) (hpl : (backTo pos (starEach es X.env)).any (·.1) = false := by rfl)
    (ht : eval (.Call (.Attribute o m apos) (e :: es) [] pos) X.env = (do
      let ov ← eval o X.env
      standAt apos.atName
      let (f, first) ← holding [ov] (getMethod ov m pl)
      callWith pos f first (backTo pos (starEach (e :: es) X.env)) (backToKw pos (keywordEach [] X.env))) := by rfl) :
    PE X (.Call (.Attribute o m apos) (e :: es) [] pos) (SlX.tMethSl C (fun vs H Q E => sp (vs ++ []) H Q E) C8.E0 ta t) := by
  obtain ⟨f, fd, ps, h1, h2, F, b⟩ := c.ex
  exact SlX.pe_methSl (pl := pl) ho h1 h2 (F.raw b .nil) (hr.mono hk) C8.pass0 ha hst hpl ht
/-- C(e, .., k = v, ..) -/
structure MakK (P : Program) (w : World) (K : PySem.W.Frag) (mg : Str → Option Value) (base : Heap) (k : Nat) (x : Str) (C : Addr) (n : Nat) (ks : List Str) (sp : Sp) (gV : List V → List V → List V) : Prop where
  ex : ∃ (f : Addr) (fd : FuncData) (ps : List Str) (g : List Value → List Value → List Value), Mk K C f ∧ FnOk P w K mg base C8.CX0 k f fd ps sp ∧ mg x = some (.ref C) ∧ KBn K fd ps (n + 1) ks g gV
theorem pe_mkK {C : Addr} {x : Str} {k j n : Nat} {ks : List Str} {sp : Sp} {gV : List V → List V → List V} {e : Expr} {es : List Expr} {kws : List Keyword} {p pos : Pos} {t tk : TA} (c : MakK X.prog X.w X.K X.mg X.base k x C n ks sp gV) (hr : Room j X.A) (hk : k + 1 ≤ j) (hg : Gl X x) (ha : PA X (e :: es) t) (hkw : PK X kws tk)
    (hall : (backToKw pos (keywordEach kws X.env)).all (·.1.isSome) = true := by rfl) (hks : (backToKw pos (keywordEach kws X.env)).filterMap (·.1) = ks := by rfl) (hdb : (x == ("__debug__" : Str)) = false := by decide)
    (he : starEach (e :: es) X.env = (false, eval e X.env) :: starEach es X.env := by rfl) (hpl : ((backTo pos (starEach (e :: es) X.env)).any (·.1) || (backToKw pos (keywordEach kws X.env)).any (·.1.isNone)) = false := by rfl) :
    PE X (.Call (.Name x p) (e :: es) kws pos) (tMakeK C n ks.length sp gV C8.E0 t tk) := by
  obtain ⟨f, fd, ps, g, M, F, hm, b⟩ := c.ex
  exact pe_makeK M F (hr.mono hk) hg hm b C8.pass0 ha hkw hall hks hdb he hpl
end
end N32
set_option Elab.async false
set_option linter.all false
set_option maxRecDepth 100000
set_option maxHeartbeats 4000000
/-! The mirror: plain functions and what holds of them. -/
namespace N32
open PySem L2
def pagesL : List Str := ["a", "b", "c", "d", "e", "f", "g", "h"]
abbrev Szs := List (Str × Int)
def szOf (z : Szs) (p : Str) : Int := ((z.find? fun q => decide (q.1 = p)).map (·.2)).getD 1
def SzOk (z : Szs) : Prop := z.length ≤ 8 ∧ ∀ q ∈ z, q.1 ∈ pagesL ∧ 1 ≤ q.2 ∧ q.2 ≤ 3
def szK (z : Szs) : List (Key × V) := z.map fun q => (.inr q.1, .int q.2)
theorem szOf_val (z : Szs) (p : Str) : (valV (szK z) (.inr p)).getD (.int 1) = .int (szOf z p) := by
  unfold valV szK szOf
  induction z with
  | nil => rfl
  | cons q r ih =>
    by_cases e : q.1 = p
    · simp [e]
    · have e' : ¬ ((Sum.inr q.1 : Key) = Sum.inr p) := fun h => e (Sum.inr.inj h)
      simp only [List.map_cons, List.find?_cons, decide_eq_false e, decide_eq_false e']
      exact ih
theorem szOf_bd {z : Szs} (h : SzOk z) (p : Str) : 1 ≤ szOf z p ∧ szOf z p ≤ 3 := by
  unfold szOf
  cases e : z.find? fun q => decide (q.1 = p) with
  | none => exact ⟨by decide, by decide⟩
  | some q => exact (h.2 q (List.mem_of_find?_eq_some e)).2

/-! ### entries, rows, what rules answer -/
structure Ent where
  pg : Str
  sz : Int
  since : Int
  last : Int
  uses : Int
def Ent.vs (e : Ent) : List V := [.str e.pg, .int e.sz, .int e.since, .int e.last, .int e.uses]
structure RowD where
  pg : Str
  since : Int
  last : Int
  uses : Int
  start : Int
inductive RSt where
  | none | num (n : Int) | seen (xs : List Str)
inductive Ans where
  | ok (st : RSt) (out : List Str) | no (st : RSt) | bad
def takeStep (page : Str) (need : Int) (acc : List Str × Int) (e : Ent) : List Str × Int :=
  if acc.2 < need ∧ e.pg ≠ page then (acc.1 ++ [e.pg], acc.2 + e.sz) else acc
def takenA (es : List Ent) (page : Str) (need : Int) : List Str × Int := es.foldl (takeStep page need) ([], 0)
def takenL (es : List Ent) (page : Str) (need : Int) : List Str := (takenA es page need).1
def RSt.count (st : RSt) (z : Int) : Int := match st with
  | .num n => n + 1
  | _ => z
def RSt.seenL : RSt → List Str
  | .seen xs => xs
  | _ => []
def entD : Ent := ⟨"", 0, 0, 0, 0⟩
/-- the order of the rule that asks for uses, then the latest, then the place -/
def leastLe (es : List Ent) (i j : Nat) : Bool :=
  decide ((es.getD i entD).uses < (es.getD j entD).uses ∨ ((es.getD i entD).uses = (es.getD j entD).uses ∧ ((es.getD j entD).last < (es.getD i entD).last ∨ ((es.getD j entD).last = (es.getD i entD).last ∧ i ≤ j))))
def leastI (es : List Ent) : List Nat := (List.range es.length).mergeSort (leastLe es)
def leastO (es : List Ent) : List Ent := (leastI es).map fun i => es.getD i entD
theorem leastLe_trans (es : List Ent) : ∀ i j k, leastLe es i j = true → leastLe es j k = true → leastLe es i k = true := by
  intro i j k h1 h2
  unfold leastLe at *
  rw [decide_eq_true_eq] at *
  omega
theorem leastLe_total (es : List Ent) : ∀ i j, (leastLe es i j || leastLe es j i) = true := by
  intro i j
  unfold leastLe
  rw [Bool.or_eq_true, decide_eq_true_eq, decide_eq_true_eq]
  omega
theorem leastLe_anti (es : List Ent) : ∀ i j, leastLe es i j = true → leastLe es j i = true → i = j := by
  intro i j h1 h2
  unfold leastLe at *
  rw [decide_eq_true_eq] at *
  omega
theorem least_one {es : List Ent} {l : List Nat} (p : l.Perm (List.range es.length)) (h : l.Pairwise fun i j => leastLe es i j = true) : l = leastI es := by
  refine List.Perm.eq_of_pairwise (le := fun i j => leastLe es i j = true) (fun a b _ _ => leastLe_anti es a b) h ?_ (p.trans (List.mergeSort_perm _ _).symm)
  exact List.pairwise_mergeSort (leastLe_trans es) (leastLe_total es) _
def turnO (es : List Ent) (n : Int) : List Ent := if n % 3 = 0 then es.reverse else es.drop (n % 2).toNat ++ es.take (n % 2).toNat
def namesO (es : List Ent) : List Str := es.map (·.pg)
def wildA (n : Int) (es : List Ent) (page : Str) (good : List Str) (i : Nat) : Ans :=
  match i with
  | 0 => .ok (.num n) good
  | 1 => .no (.num n)
  | 5 => .ok (.num n) ("zz" :: good)
  | 6 => .ok (.num n) (namesO es)
  | 8 => .ok (.num n) (good.drop 1)
  | 9 => .ok (.num n) [page]
  | 12 => .ok (.num n) ((namesO es).take 1 ++ (namesO es).take 1 ++ good)
  | 14 => .ok (.num n) good
  | _ => .bad
def wildF (n : Int) (es : List Ent) (page : Str) (good : List Str) : Ans := wildA n es page good ((n * n + (es.map (·.last)).sum) % 16).toNat
/-- the six rules -/
def ruleF (r : Nat) (st : RSt) (es : List Ent) (page : Str) (need : Int) : Ans := match r with
  | 0 => .ok st (takenL es page need)
  | 1 => .ok (.num (st.count 1)) (takenL (turnO es (st.count 1)) page need)
  | 2 => .ok st (takenL (leastO es) page need)
  | 3 => .ok (.num (st.count 0)) (if st.count 0 % 4 = 1 then (namesO es).filter (fun x => decide (x ≠ page)) else takenL es page need)
  | 4 => if 0 < need ∧ page ∉ namesO es ∧ page ∉ st.seenL then .no (.seen ((st.seenL ++ [page]).drop ((st.seenL ++ [page]).length - 2))) else .ok (.seen st.seenL) (takenL es.reverse page need)
  | _ => wildF (st.count 0) es page (takenL es page need)
def isAns (z : Szs) (es : List Ent) (page : Str) (need : Int) (out : List Str) : Bool :=
  out.all (fun n => decide (n ∈ namesO es ∧ n ≠ page)) && (decide out.Nodup && decide (need ≤ (out.map (szOf z)).sum))
/-- the next state and the pages that go (none: not kept) -/
def answerF (z : Szs) (es : List Ent) (page : Str) (need : Int) (may : Bool) (st : RSt) (a : Ans) : RSt × Option (List Str) × Bool :=
  match a with
  | .ok st' out => if isAns z es page need out = true then (st', some out, false) else (st, some (takenL es page need), true)
  | .no st' => if may = true then (st', none, false) else (st, some (takenL es page need), true)
  | .bad => (st, some (takenL es page need), true)

/-! ### the machine -/
structure M where
  share : Int
  rule : Nat
  rows : List RowD
  st : RSt
  reqs : Int
  moment : Int
  dirt : Nat
def RowD.ent (z : Szs) (r : RowD) : Ent := ⟨r.pg, szOf z r.pg, r.since, r.last, r.uses⟩
def M.ents (z : Szs) (m : M) : List Ent := m.rows.map (RowD.ent z)
def M.pgs (m : M) : List Str := m.rows.map (·.pg)
def usedR (z : Szs) (rows : List RowD) : Int := (rows.map fun r => szOf z r.pg).sum
def M.used (z : Szs) (m : M) : Int := usedR z m.rows
def needF (z : Szs) (m : M) (page : Str) : Int := if page ∈ m.pgs then 0 else if m.used z + szOf z page - m.share > 0 then m.used z + szOf z page - m.share else 0
/-- what the rule says at a request: (state, pages that go or none) -/
def toldF (z : Szs) (m : M) (page : Str) : RSt × Option (List Str) × Bool :=
  answerF z (m.ents z) page (needF z m page) (!decide (page ∈ m.pgs)) m.st (ruleF m.rule m.st (m.ents z) page (needF z m page))
def asksF (z : Szs) (m : M) (page : Str) : Bool := decide (page ∈ m.pgs) || decide (szOf z page ≤ m.share)
def keptF (z : Szs) (m : M) (page : Str) : Bool := asksF z m page && (toldF z m page).2.1.isSome
def outF (z : Szs) (m : M) (page : Str) : List Str := if asksF z m page = true then (toldF z m page).2.1.getD [] else []
def dropR (rows : List RowD) (out : List Str) : List RowD := rows.filter fun r => decide (r.pg ∉ out)
def useR (rows : List RowD) (page : Str) (n : Int) : List RowD := rows.map fun r => if r.pg = page then { r with last := n, uses := r.uses + 1 } else r
def reqF (z : Szs) (m : M) (at_ : Int) (page : Str) : M :=
  { m with
    moment := at_
    dirt := m.dirt + 1
    reqs := m.reqs + 1
    st := if asksF z m page = true then (toldF z m page).1 else m.st
    rows := if keptF z m page = true then (if page ∈ m.pgs then useR (dropR m.rows (outF z m page)) page (m.reqs + 1) else dropR m.rows (outF z m page) ++ [⟨page, m.reqs + 1, m.reqs + 1, 1, at_⟩]) else dropR m.rows (outF z m page) }
/-- the rule's state fits the rule -/
def StOk (r : Nat) (st : RSt) (n : Int) : Prop := match r, st with
  | _, .none => True
  | 1, .num k => 0 ≤ k ∧ k ≤ n + 1
  | 3, .num k => 0 ≤ k ∧ k ≤ n + 1
  | 5, .num k => 0 ≤ k ∧ k ≤ n + 1
  | 4, .seen xs => xs.length ≤ 2
  | _, _ => False
structure MOk (z : Szs) (m : M) : Prop where
  rule : m.rule < 6
  share : 0 ≤ m.share ∧ m.share ≤ 8
  reqs : 0 ≤ m.reqs ∧ m.reqs ≤ 100
  dirt : (m.dirt : Int) = m.reqs
  moment : 0 ≤ m.moment ∧ m.moment ≤ 1000
  nodup : m.pgs.Nodup
  pages : ∀ p ∈ m.pgs, p ∈ pagesL
  since : (m.rows.map (·.since)).Pairwise (· < ·)
  bds : ∀ r ∈ m.rows, 1 ≤ r.since ∧ r.since ≤ m.reqs ∧ 1 ≤ r.last ∧ r.last ≤ m.reqs ∧ 1 ≤ r.uses ∧ r.uses ≤ m.reqs ∧ 0 ≤ r.start ∧ r.start ≤ 1000
  st : StOk m.rule m.st m.reqs
  used : m.used z ≤ m.share
end N32
set_option Elab.async false
set_option linter.all false
set_option maxRecDepth 100000
set_option maxHeartbeats 4000000

namespace N32
open PySem PySem.Spec PyProof.Rows L2 Evl
/-! ### evaluations that leave all as it was -/
section
variable {K : PySem.W.Frag} {σ : L2.St} {H : Hp} {ta tb te tx : TE} {x y v : V}
theorem ev_isi {c : V} {t u : Value} {b : Bool} (ha : Ev ta σ H x) (hc : ClsV c u) (ty : ∀ H1, Ex H H1 → TyF K H1 x t) (h : PySem.W.kitOne K t u = some b) : Ev (tCB (rIsiF K) (tCons ta (tCons (tC c) tNil))) σ H (.bl b) :=
  ev_cb (ea_cons ha (ea_cons ev_c ea_nil)) fun H1 e Q q => ⟨x, c, t, u, b, rfl, hc, ty H1 e, h, q H1 (Ex.refl H1)⟩
theorem ty_int {n : Int} : TyF K H (.int n) (.type "int") := .x (.base (.int n))
theorem ty_str {z : Str} : TyF K H (.str z) (.type "str") := .x (.base (.str z))
theorem ty_bl {b : Bool} : TyF K H (.bl b) (.type "bool") := .x (.base (.bl b))
theorem ty_dK {a : Addr} {kvs : List (Key × V)} (h : H a = some (.dK kvs)) : TyF K H (.ref a) (.type "dict") := .x (.base (.dK h))
theorem ty_lst {a : Addr} {xs : List V} (h : H a = some (.lst xs)) : TyF K H (.ref a) (.type "list") := .x (.base (.lst h))
theorem ty_tup {a : Addr} {xs : List V} (h : H a = some (.tup xs)) : TyF K H (.ref a) (.type "tuple") := .x (.base (.tup h))
/-- a call of a def that leaves all as it was -/
theorem ev_callV {sp : Sp} {vs : List V} {E : XK} {t : TA} (h : EvA t σ H vs) (hs : ∀ H1, Ex H H1 → ∀ Q : VK, RetV v H1 Q → sp vs H1 Q E) : Ev (tCall sp [] E t) σ H v := fun H1 e Q q =>
  h H1 e _ fun H2 e2 => by
    rw [List.append_nil]
    exact hs H2 (e.trans e2) Q fun H3 e3 => q H3 (e2.trans e3)
theorem el_callL {sp : Sp} {vs xs : List V} {E : XK} {t : TA} (h : EvA t σ H vs) (hs : ∀ H1, Ex H H1 → ∀ Q : VK, RetL xs H1 Q → sp vs H1 Q E) : EvL (tCall sp [] E t) σ H xs := fun H1 e Q q =>
  h H1 e _ fun H2 e2 => by
    rw [List.append_nil]
    exact hs H2 (e.trans e2) Q fun p H3 hp e3 h3 => q p H3 (fresh_back e2 hp) (e2.trans e3) h3
/-- a def that hands back a new tuple -/
def RetU (xs : List V) (H : Hp) (Q : VK) : Prop := ∀ p H2, H p = none → Ex H H2 → H2 p = some (.tup xs) → Q (.ref p) H2
theorem eu_callU {sp : Sp} {vs xs : List V} {E : XK} {t : TA} (h : EvA t σ H vs) (hs : ∀ H1, Ex H H1 → ∀ Q : VK, RetU xs H1 Q → sp vs H1 Q E) : EvU (tCall sp [] E t) σ H xs := fun H1 e Q q =>
  h H1 e _ fun H2 e2 => by
    rw [List.append_nil]
    exact hs H2 (e.trans e2) Q fun p H3 hp e3 h3 => q p H3 (fresh_back e2 hp) (e2.trans e3) h3
theorem ev_chain {r r' : R2} {tc : TE} {z : V} {a b : Bool} (ha : Ev ta σ H x) (hb : Ev tb σ H y) (hr : RV r x y H (.bl a)) (hc : a = true → Ev tc σ H z) (hr' : a = true → RV r' y z H (.bl b)) : Ev (tChain r r' ta tb tc) σ H (.bl (a && b)) := fun H1 e Q q =>
  ha H1 e _ fun H2 e2 => hb H2 (e.trans e2) _ fun H3 e3 => hr H3 ((e.trans e2).trans e3) _ fun H4 e4 => ⟨a, rfl, by
    cases a with
    | true => exact hc rfl H4 (((e.trans e2).trans e3).trans e4) _ fun H5 e5 => hr' rfl H5 ((((e.trans e2).trans e3).trans e4).trans e5) Q fun H6 e6 => q H6 ((((e2.trans e3).trans e4).trans e5).trans e6)
    | false => exact q H4 ((e2.trans e3).trans e4)⟩
theorem ev_fld {a C dx : Addr} {fs : List (Str × V)} {f : Str} (ha : Ev ta σ H (.ref a)) (ho : H a = some (.ins C dx fs)) (hc : Cls K C) (hn : NoAttr K C f) (hl : fs.lookup f = some v) : Ev (tFld K ta f) σ H v := fun H1 e Q q =>
  ha H1 e _ fun H2 e2 => ⟨a, C, dx, fs, v, rfl, e2 _ _ (e _ _ ho), hc, hn, hl, q H2 e2⟩
theorem dget_ex {a : Addr} {k : V} {o : Option V} {H1 : Hp} (e : Ex H H1) (h : DGet H a k o) : DGet H1 a k o := by
  rcases h with ⟨kvs, k', h1, h2, h3⟩ | ⟨kvs, k', b, h1, h2, h3, h4⟩
  · exact .inl ⟨kvs, k', ex_rd e h1, h2, h3⟩
  · exact .inr ⟨kvs, k', b, ex_rd e h1, h2, e _ _ h3, h4⟩
theorem ev_dget {a : Addr} {k : V} (hd : Ev ta σ H (.ref a)) (hk : Ev tb σ H k) (g : DGet H a k (some v)) : Ev (tDGet ta tb) σ H v := fun H1 e Q q =>
  hd H1 e _ fun H2 e2 => hk H2 (e.trans e2) _ fun H3 e3 => ⟨a, v, rfl, dget_ex ((e.trans e2).trans e3) g, q H3 (e2.trans e3)⟩
theorem et_dIn {a : Addr} {k : V} {o : Option V} (hk : Ev ta σ H k) (hd : Ev tb σ H (.ref a)) (g : DGet H a k o) : Ev (tDIn ta tb) σ H (.bl o.isSome) := fun H1 e Q q =>
  hk H1 e _ fun H2 e2 => hd H2 (e.trans e2) _ fun H3 e3 => ⟨a, o, rfl, dget_ex ((e.trans e2).trans e3) g, q H3 (e2.trans e3)⟩
theorem ev_dget2 {a : Addr} {kvs : List (Key × V)} {k : Key} (hd : Ev ta σ H (.ref a)) (hk : Ev tb σ H (kV k)) (hx : Ev tx σ H x) (g : H a = some (.dK kvs)) : Ev (tDGet2 ta tb tx) σ H ((valV kvs k).getD x) := fun H1 e Q q =>
  hd H1 e _ fun H2 e2 => ⟨a, rfl, .inl ⟨kvs, .inl (e2 _ _ (e _ _ g))⟩, hk H2 (e.trans e2) _ fun H3 e3 => hx H3 ((e.trans e2).trans e3) _ fun H4 e4 =>
    ⟨_, DGet.k (e4 _ _ (e3 _ _ (e2 _ _ (e _ _ g)))), q H4 ((e2.trans e3).trans e4)⟩⟩
/-- a dict is locked while it is walked -/
theorem lock_ex {H1 H2 : Hp} {d : Addr} {u : HO} {od : Obj} (hd : H1 d = some u) (e : Ex (upd H1 d (.frz od u)) H2) : Ex H1 (upd H2 d u) := fun a o h => by
  by_cases q : a = d
  · subst q
    rw [hd] at h
    cases h
    exact upd_same
  · rw [upd_ne q]
    exact e _ _ (by rw [upd_ne q]; exact h)
theorem ev_lock {t : TE} {d : Addr} {u : HO} (hd : H d = some u) (mu : Mut (some u)) (h : ∀ H1 od, Ex H H1 → Ev t σ (upd H1 d (.frz od u)) v) : Ev (tLockE t) σ H v := fun H1 e Q q =>
  ⟨d, u, e _ _ hd, mu, fun od => h H1 od e _ (Ex.refl _) _ fun H2 e2 => ⟨e2 _ _ upd_same, q _ (lock_ex (e _ _ hd) e2)⟩⟩
theorem el_lock {t : TE} {d : Addr} {u : HO} {xs : List V} (hd : H d = some u) (mu : Mut (some u)) (h : ∀ H1 od, Ex H H1 → EvL t σ (upd H1 d (.frz od u)) xs) : EvL (tLockE t) σ H xs := fun H1 e Q q =>
  ⟨d, u, e _ _ hd, mu, fun od => h H1 od e _ (Ex.refl _) _ fun p H2 hp e2 h2 => by
    have hne : p ≠ d := fun z => by rw [z, upd_same] at hp; cases hp
    rw [upd_ne hne] at hp
    exact ⟨e2 _ _ upd_same, q p _ hp (lock_ex (e _ _ hd) e2) (by rw [upd_ne hne]; exact h2)⟩⟩
/-- [elt for target in walked if ..], all of it leaving what was -/
theorem el_lcW {J : It} {n : Nat} {G : Hp → Prop} {Y : Nat → Hp → V → Hp → Prop} {wi : TI} {g : TG} {tt : TT} {vs : List Nat} (f : Nat → Bool) (vl : Nat → V)
    (hw : ∀ H1, Ex H H1 → ∀ R : It → Hp → Prop, (∀ H2, Ex H1 H2 → R J H2) → wi σ H1 R) (w : Walk J n G Y) (hn : n ≤ 40000) (hG : ∀ H1, Ex H H1 → G H1)
    (hs : ∀ i H1 x H2, i < n → Ex H H1 → Y i H1 x H2 → ∀ R : L2.St → Hp → Prop, (∀ σ2 H3, Ex H1 H3 → wipe σ2 vs = wipe σ vs → EvT tt σ2 H3 (f i) → (f i = true → Ev te σ2 H3 (vl i)) → R σ2 H3) → g x (wipe σ vs) H2 R) :
    EvL (tLc wi g tt te vs) σ H (given n f vl) := fun H0 e0 Q q => hw H0 e0 _ fun H1 e1 D hD =>
  lc_it w (Cw H1 f vl D) ⟨hD, Ex.new hD, upd_same⟩ (fun i H2 _ p => hG H2 ((e0.trans e1).trans p.2.1))
    (fun i x H2 H3 hi p y => hs i H2 x H3 hi ((e0.trans e1).trans p.2.1) y _ fun σ2 H4 e4 hwp ht he => ⟨hwp, by
      obtain ⟨p1, p2, p3⟩ := p
      refine ht H4 (Ex.refl _) _ fun H5 e5 => ?_
      have e25 : Ex H2 H5 := e4.trans e5
      cases hf : f i with
      | true =>
        show te σ2 H5 fun y H4 => ∃ acc, H4 D = some (.lst acc) ∧ acc.length < sizeLine ∧ Cw H1 f vl D (i + 1) (upd H4 D (.lst (acc ++ [y])))
        refine he hf H5 e5 _ fun H6 e6 => ⟨given i f vl, e6 D _ (e25 D _ p3), sz_lt (by have := given_len i f vl; omega), p1, Ex.mut ((p2.trans e25).trans e6) p1, ?_⟩
        rw [given_yes hf]
        exact upd_same
      | false =>
        show Cw H1 f vl D (i + 1) H5
        refine ⟨p1, p2.trans e25, ?_⟩
        rw [given_no hf]
        exact e25 D _ p3⟩) (fun H2 p => q D H2 (fresh_back e1 p.1) (e1.trans p.2.1) p.2.2)
theorem wi_list {tl : TE} {a : Addr} {xs : List V} (h : Ev tl σ H (.ref a)) (hx : SqL K H a xs) : ∀ H1, Ex H H1 → ∀ R : It → Hp → Prop, (∀ H2, Ex H1 H2 → R (Itl K a) H2) → iList K tl σ H1 R := fun H1 e R q =>
  h H1 e _ fun H2 e2 => ⟨a, rfl, ⟨xs, ex_l (e.trans e2) hx⟩, q H2 e2⟩
theorem wi_tup {tl : TE} {a : Addr} {xs : List V} (h : Ev tl σ H (.ref a)) (hx : SqT K H a xs) : ∀ H1, Ex H H1 → ∀ R : It → Hp → Prop, (∀ H2, Ex H1 H2 → R (Itt K a) H2) → iTup K tl σ H1 R := fun H1 e R q =>
  h H1 e _ fun H2 e2 => ⟨a, rfl, ⟨xs, ex_t (e.trans e2) hx⟩, q H2 e2⟩
theorem wi_str {tl : TE} {z : Str} (h : Ev tl σ H (.str z)) : ∀ H1, Ex H H1 → ∀ R : It → Hp → Prop, (∀ H2, Ex H1 H2 → R (Its z) H2) → iStr tl σ H1 R := fun H1 e R q =>
  h H1 e _ fun H2 e2 => ⟨z, rfl, q H2 e2⟩
theorem wi_keys {tl : TE} {d : Addr} {o : Obj} {kvs : List (Key × V)} (h : Ev tl σ H (.ref d)) (hx : H d = some (.frz o (.dK kvs))) : ∀ H1, Ex H H1 → ∀ R : It → Hp → Prop, (∀ H2, Ex H1 H2 → R (Itk d o kvs) H2) → iKeys tl σ H1 R := fun H1 e R q =>
  h H1 e _ fun H2 e2 => ⟨d, o, rfl, .inl ⟨kvs, e2 _ _ (e _ _ hx), q H2 e2⟩⟩
theorem wi_items {tl : TE} {d : Addr} {o : Obj} {kvs : List (Key × V)} (h : Ev tl σ H (.ref d)) (hx : H d = some (.frz o (.dK kvs))) : ∀ H1, Ex H H1 → ∀ R : It → Hp → Prop, (∀ H2, Ex H1 H2 → R (Iti d o kvs) H2) → iItems tl σ H1 R := fun H1 e R q =>
  h H1 e _ fun H2 e2 => ⟨d, o, kvs, rfl, e2 _ _ (e _ _ hx), q H2 e2⟩
theorem et_yes : EvT tYes σ H true := fun H1 _ _ q => q H1 (Ex.refl H1)
/-- all of a new list, sum of one -/
theorem ev_all {bs : List Bool} (h : EvL ta σ H (bs.map V.bl)) : Ev (tCB (rAll K) (tCons ta tNil)) σ H (.bl (bs.all id)) := fun H1 e Q q =>
  h H1 e _ fun p H2 _ e2 h2 => ⟨p, bs, rfl, sq_of h2, q H2 e2⟩
theorem ev_sum {ns : List Int} (h : EvL ta σ H (ns.map V.int)) : Ev (tCB (rSum K) (tCons ta tNil)) σ H (.int ns.sum) := fun H1 e Q q =>
  h H1 e _ fun p H2 _ e2 h2 => ⟨p, ns, rfl, sq_of h2, q H2 e2⟩
theorem given_all {n : Nat} {v : Nat → V} : given n (fun _ => true) v = (List.range n).map v := by
  unfold given
  rw [List.filter_eq_self.mpr (fun _ _ => rfl)]
theorem range_map_get {α β : Type} (xs : List α) (d : α) (g : α → β) : (List.range xs.length).map (fun i => g (xs.getD i d)) = xs.map g := by
  apply List.ext_getElem
  · simp
  · intro i h1 h2
    simp at h1
    simp [List.getD, h1]
end


end N32
set_option Elab.async false
set_option linter.all false
set_option maxRecDepth 100000
set_option maxHeartbeats 4000000

namespace N32
open PySem PySem.Spec PyProof.Rows L2 Evl
def namesL : List Str := ["ann", "bob", "team", "cy", "di"]
def topN : List Str := ["ann", "bob", "team"]
def subN : List Str := ["cy", "di"]
def pathsL : List Str := topN ++ ((topN.flatMap fun (a : Str) => subN.map fun (b : Str) => a ++ (("/" : Str) ++ b)) ++ topN.flatMap fun (a : Str) => subN.flatMap fun (b : Str) => subN.map fun (c : Str) => a ++ (("/" : Str) ++ (b ++ (("/" : Str) ++ c))))
theorem pagesL_txt : ∀ p ∈ pagesL, 1 ≤ p.length ∧ p.length ≤ 12 ∧ ∀ c ∈ p.cps.toList, c ∈ (("abcdefghijklmnopqrstuvwxyz" : Str) ++ ("0123456789" : Str)).cps.toList := by decide +kernel
theorem namesL_txt : ∀ p ∈ namesL, 1 ≤ p.length ∧ p.length ≤ 8 ∧ ∀ c ∈ p.cps.toList, c ∈ ("abcdefghijklmnopqrstuvwxyz" : Str).cps.toList := by decide +kernel
theorem pathsL_txt : ∀ p ∈ pathsL, p.length ≤ 20 ∧ (Txt.split p "/").length ≤ 3 ∧ ∀ n ∈ Txt.split p "/", n ∈ namesL := by decide +kernel

section
variable {P : Program} {w : World} {K : PySem.W.Frag} {mg : Str → Option Value} {base : Heap}
abbrev n_is_integer : List Str := ["value"]
theorem sc_is_integer : FnScope n_is_integer ["value"] (defScope s_is_integer) := C8.fnScope_by (by decide +kernel)
def sp_is_integer : Sp := fun vs H Q _ => ∃ n : Int, vs = [.int n] ∧ RetV (.bl true) H Q
theorem ok_is_integer  (T : Ctx K mg) : C8.Cal P w K mg base 1 "is_integer" (sp_is_integer) [] := by
  refine cal_of T.f_is_integer (T.glo _ (by decide)) (N := n_is_integer) sc_is_integer (fun _ _ _ _ _ _ us hl => match us, hl with | [_], _ => rfl) (fun vs H Q E h => ?len) (fun cdv A outer s H vs Q E hr h => ?body)
  case len =>
    obtain ⟨_, rfl, _⟩ := h
    rfl
  case body =>
    obtain ⟨n, rfl, k⟩ := h
    refine ⟨_, (pss_one (ps_ret (pe_and (pe_callB (call_isiF (K := K)) (by rfl) (T.free _ (by decide)) (by decide +kernel) (pa_cons (pv 0) (pa_cons (pe_bltn (v := .ty "int") (by rfl) (T.free _ (by decide)) (by decide +kernel) rfl) pa_nil))) (pe_one (pe_not (pe_callB (call_isiF (K := K)) (by rfl) (T.free _ (by decide)) (by decide +kernel) (pa_cons (pv 0) (pa_cons (pe_bltn (v := .ty "bool") (by rfl) (T.free _ (by decide)) (by decide +kernel) rfl) pa_nil)))))))), ?_⟩
    exact s_ret (ev_is (ev_andV (a := true) (b := true) (ev_isi (ev_var rfl) (.ty "int") (fun _ _ => ty_int) (kit_ty (by decide +kernel))) fun _ => ev_notV (a := false) (ev_isi (ev_var rfl) (.ty "bool") (fun _ _ => ty_int) (kit_ty (by decide +kernel)))) rfl) k
end
section
variable {P : Program} {w : World} {K : PySem.W.Frag} {mg : Str → Option Value} {base : Heap}
abbrev n_is_between : List Str := ["value", "least", "most"]
theorem sc_is_between : FnScope n_is_between ["value", "least", "most"] (defScope s_is_between) := C8.fnScope_by (by decide +kernel)
def sp_is_between : Sp := fun vs H Q _ => ∃ n a b : Int, vs = [.int n, .int a, .int b] ∧ a ≤ n ∧ n ≤ b ∧ RetV (.bl true) H Q
theorem ok_is_between  (T : Ctx K mg) : C8.Cal P w K mg base 2 "is_between" (sp_is_between) [] := by
  refine cal_of T.f_is_between (T.glo _ (by decide)) (N := n_is_between) sc_is_between (fun _ _ _ _ _ _ us hl => match us, hl with | [_, _, _], _ => rfl) (fun vs H Q E h => ?len) (fun cdv A outer s H vs Q E hr h => ?body)
  case len =>
    obtain ⟨_, _, _, rfl, _⟩ := h
    rfl
  case body =>
    obtain ⟨n, a, b, rfl, h1, h2, k⟩ := h
    refine ⟨_, (pss_one (ps_ret (pe_and (C8.pe_c (ok_is_integer T) hr (by decide) (by rfl) (pa_cons (pv 0) pa_nil)) (pe_one (pe_chain op_le op_le (by exact (pv 1)) (by exact (pv 0)) (by exact (pv 2))))))), ?_⟩
    exact s_ret (ev_is (ev_andV (a := true) (b := true) (ev_callV (ea_cons (ev_var rfl) ea_nil) fun H1 _ Q q => ⟨n, rfl, q⟩) fun _ =>
      ev_is (ev_chain (ev_var rfl) (ev_var rfl) rv_I0 (fun _ => ev_var rfl) fun _ => rv_I0) (by rw [decide_eq_true h1, decide_eq_true h2]; rfl)) rfl) k
end
section
variable {P : Program} {w : World} {K : PySem.W.Frag} {mg : Str → Option Value} {base : Heap}
abbrev n_is_text_of : List Str := ["value", "letters", "most", "letter"]
theorem sc_is_text_of : FnScope n_is_text_of ["value", "letters", "most"] (defScope s_is_text_of) := C8.fnScope_by (by decide +kernel)
def sp_is_text_of : Sp := fun vs H Q _ => ∃ (z l : Str) (m : Int), vs = [.str z, .str l, .int m] ∧ 1 ≤ z.length ∧ (z.length : Int) ≤ m ∧ z.length ≤ 20 ∧ (∀ c ∈ z.cps.toList, c ∈ l.cps.toList) ∧ RetV (.bl true) H Q
theorem ok_is_text_of  (T : Ctx K mg) : C8.Cal P w K mg base 1 "is_text_of" (sp_is_text_of) [] := by
  refine cal_of T.f_is_text_of (T.glo _ (by decide)) (N := n_is_text_of) sc_is_text_of (fun _ _ _ _ _ _ us hl => match us, hl with | [_, _, _], _ => rfl) (fun vs H Q E h => ?len) (fun cdv A outer s H vs Q E hr h => ?body)
  case len =>
    obtain ⟨_, _, _, rfl, _⟩ := h
    rfl
  case body =>
    obtain ⟨z, l, m, rfl, h1, h2, h3, hc, k⟩ := h
    refine ⟨_, (pss_one (ps_ret (pe_and (pe_callB (call_isiF (K := K)) (by rfl) (T.free _ (by decide)) (by decide +kernel) (pa_cons (pv 0) (pa_cons (pe_bltn (v := .ty "str") (by rfl) (T.free _ (by decide)) (by decide +kernel) rfl) pa_nil))) (pe_and (pe_chain op_le op_le (by exact pe_int) (by exact (pe_callB call_len_str (by rfl) (T.free _ (by decide)) (by decide +kernel) (pa_cons (pv 0) pa_nil))) (by exact (pv 2))) (pe_one (pe_callB (cr_allK (K := K) rfl) (by rfl) (T.free _ (by decide)) (by decide +kernel) (pa_cons (pe_lc (own := [("letter", 3)]) (by rfl) sc_is_text_of.nd (pi_str (pv 0)) (blkOk_by (own := [("letter", 3)]) (N := n_is_text_of) (sc := defScope s_is_text_of) (by decide +kernel)) (fun _ _ _ _ _ => pg_name (i := 3) sc_is_text_of.nd rfl (Or.inl rfl)) (fun _ _ _ _ _ => by exact pts_nil) (fun _ _ _ _ _ => by exact (pe_cmpR op_in_sign (pv 3) (pv 1) (by rfl)))) pa_nil))))))), ?_⟩
    have hz : z.cps.size = z.length := rfl
    have hlen : ∀ te, Ev te (L2.start n_is_text_of [.str z, .str l, .int m]) H (.str z) → Ev (tCB (fun xs H Q => ∃ z, xs = [.str z] ∧ z.length ≤ sizeLine ∧ Q (.int z.length) H) (tCons te tNil)) (L2.start n_is_text_of [.str z, .str l, .int m]) H (.int (z.length : Int)) := fun te he =>
      ev_cb (ea_cons he ea_nil) fun H1 _ Q q => ⟨z, rfl, sz_of (by omega), q H1 (Ex.refl H1)⟩
    refine s_ret (ev_is (ev_andV (a := true) (b := true) (ev_isi (ev_var rfl) (.ty "str") (fun _ _ => ty_str) (kit_ty (by decide +kernel))) fun _ => ev_is (ev_andV (a := true) (b := true)
      (ev_is (ev_chain ev_c (hlen _ (ev_var rfl)) rv_I0 (fun _ => ev_var rfl) fun _ => rv_I0) (by rw [decide_eq_true (show (1 : Int) ≤ (z.length : Int) by omega), decide_eq_true h2]; rfl))
      fun _ => ev_is (ev_all (bs := List.replicate z.length true) ?_) ?_) rfl) rfl) k
    · have e : (List.replicate z.length true).map V.bl = given z.cps.size (fun _ => true) (fun _ => V.bl true) := by
        rw [given_all, List.map_replicate, List.map_const', List.length_range, hz]
      rw [e]
      refine el_lcW _ _ (wi_str (ev_var rfl)) walk_str (by omega) (fun _ _ => trivial) fun i H1 x H2 hi e1 y R hR => ?_
      obtain ⟨rfl, c, hcs, rfl⟩ := y
      refine hR _ _ (Ex.refl _) rfl et_yes fun _ => ev_is (ev_op (ev_var rfl) (ev_var rfl) fun H3 _ Q q => ⟨c, l, rfl, rfl, q H3 (Ex.refl H3)⟩) ?_
      rw [decide_eq_true (hc c (List.mem_of_getElem? (by rw [Array.getElem?_toList]; exact hcs)))]
    · show V.bl ((List.replicate z.length true).all id) = V.bl true
      rw [List.all_replicate]
      simp
end
section
variable {P : Program} {w : World} {K : PySem.W.Frag} {mg : Str → Option Value} {base : Heap}
abbrev n_is_page : List Str := ["value"]
theorem sc_is_page : FnScope n_is_page ["value"] (defScope s_is_page) := C8.fnScope_by (by decide +kernel)
def sp_is_page : Sp := fun vs H Q _ => ∃ z : Str, vs = [.str z] ∧ z ∈ pagesL ∧ RetV (.bl true) H Q
theorem ok_is_page  (T : Ctx K mg) : C8.Cal P w K mg base 2 "is_page" (sp_is_page) [] := by
  refine cal_of T.f_is_page (T.glo _ (by decide)) (N := n_is_page) sc_is_page (fun _ _ _ _ _ _ us hl => match us, hl with | [_], _ => rfl) (fun vs H Q E h => ?len) (fun cdv A outer s H vs Q E hr h => ?body)
  case len =>
    obtain ⟨_, rfl, _⟩ := h
    rfl
  case body =>
    obtain ⟨z, rfl, hz, k⟩ := h
    refine ⟨_, (pss_one (ps_ret (C8.pe_c (ok_is_text_of T) hr (by decide) (by rfl) (pa_cons (pv 0) (pa_cons (pe_op op_add_str (C8.pe_gc (v := .str "abcdefghijklmnopqrstuvwxyz") (by rfl) (const_ofS T.letters)) (C8.pe_gc (v := .str "0123456789") (by rfl) (const_ofS T.digits))) (pa_cons pe_int pa_nil)))))), ?_⟩
    obtain ⟨h1, h2, h3⟩ := pagesL_txt z hz
    exact s_ret (ev_callV (ea_cons (ev_var rfl) (ea_cons (ev_op ev_c ev_c fun H1 _ Q q => ⟨_, _, rfl, rfl, by decide +kernel, q H1 (Ex.refl H1)⟩) (ea_cons ev_c ea_nil))) fun H1 _ Q q => ⟨z, _, 12, rfl, h1, by omega, by omega, h3, q⟩) k
end
section
variable {P : Program} {w : World} {K : PySem.W.Frag} {mg : Str → Option Value} {base : Heap}
abbrev n_is_name : List Str := ["value"]
theorem sc_is_name : FnScope n_is_name ["value"] (defScope s_is_name) := C8.fnScope_by (by decide +kernel)
def sp_is_name : Sp := fun vs H Q _ => ∃ z : Str, vs = [.str z] ∧ z ∈ namesL ∧ RetV (.bl true) H Q
theorem ok_is_name  (T : Ctx K mg) : C8.Cal P w K mg base 2 "is_name" (sp_is_name) [] := by
  refine cal_of T.f_is_name (T.glo _ (by decide)) (N := n_is_name) sc_is_name (fun _ _ _ _ _ _ us hl => match us, hl with | [_], _ => rfl) (fun vs H Q E h => ?len) (fun cdv A outer s H vs Q E hr h => ?body)
  case len =>
    obtain ⟨_, rfl, _⟩ := h
    rfl
  case body =>
    obtain ⟨z, rfl, hz, k⟩ := h
    refine ⟨_, (pss_one (ps_ret (C8.pe_c (ok_is_text_of T) hr (by decide) (by rfl) (pa_cons (pv 0) (pa_cons (C8.pe_gc (v := .str "abcdefghijklmnopqrstuvwxyz") (by rfl) (const_ofS T.letters)) (pa_cons pe_int pa_nil)))))), ?_⟩
    obtain ⟨h1, h2, h3⟩ := namesL_txt z hz
    exact s_ret (ev_callV (ea_cons (ev_var rfl) (ea_cons ev_c (ea_cons ev_c ea_nil))) fun H1 _ Q q => ⟨z, _, 8, rfl, h1, by omega, by omega, h3, q⟩) k
end
section
variable {P : Program} {w : World} {K : PySem.W.Frag} {mg : Str → Option Value} {base : Heap}
abbrev n_is_path : List Str := ["value", "names", "name"]
theorem sc_is_path : FnScope n_is_path ["value"] (defScope s_is_path) := C8.fnScope_by (by decide +kernel)
def sp_is_path : Sp := fun vs H Q _ => ∃ z : Str, vs = [.str z] ∧ z ∈ pathsL ∧ RetV (.bl true) H Q
theorem ok_is_path  (T : Ctx K mg) : C8.Cal P w K mg base 3 "is_path" (sp_is_path) [] := by
  refine cal_of T.f_is_path (T.glo _ (by decide)) (N := n_is_path) sc_is_path (fun _ _ _ _ _ _ us hl => match us, hl with | [_], _ => rfl) (fun vs H Q E h => ?len) (fun cdv A outer s H vs Q E hr h => ?body)
  case len =>
    obtain ⟨_, rfl, _⟩ := h
    rfl
  case body =>
    obtain ⟨z, rfl, hz, k⟩ := h
    refine ⟨_, (pss_cons (ps_if (pt_not (pt_val (pe_callB (call_isiF (K := K)) (by rfl) (T.free _ (by decide)) (by decide +kernel) (pa_cons (pv 0) (pa_cons (pe_bltn (v := .ty "str") (by rfl) (T.free _ (by decide)) (by decide +kernel) rfl) pa_nil))))) (pss_one (ps_ret pe_bl)) pss_nil) (pss_cons (ps_set (i := 1) sc_is_path.nd rfl (Or.inl rfl) (pe_split (pv 0) pe_str)) (pss_one (ps_ret (pe_and (pe_cmpR op_le (pe_callB (call_len_seqK (K := K)) (by rfl) (T.free _ (by decide)) (by decide +kernel) (pa_cons (pv 1) pa_nil)) (C8.pe_gc (v := .int 3) (by rfl) (const_of T.mostLevels)) (by rfl)) (pe_one (pe_callB (cr_allK (K := K) rfl) (by rfl) (T.free _ (by decide)) (by decide +kernel) (pa_cons (pe_lc (own := [("name", 2)]) (by rfl) sc_is_path.nd (pi_listK (K := K) (pv 1)) (blkOk_by (own := [("name", 2)]) (N := n_is_path) (sc := defScope s_is_path) (by decide +kernel)) (fun _ _ _ _ _ => pg_name (i := 2) sc_is_path.nd rfl (Or.inl rfl)) (fun _ _ _ _ _ => by exact pts_nil) (fun _ _ _ _ _ => by exact (C8.pe_c (ok_is_name T) hr (by decide) (by rfl) (pa_cons (pv 2) pa_nil)))) pa_nil)))))))), ?_⟩
    obtain ⟨h1, h2, h3⟩ := pathsL_txt z hz
    refine q_when (et_not (a := true) (et_B (ev_isi (ev_var rfl) (.ty "str") (fun _ _ => ty_str) (kit_ty (by decide +kernel))))) (fun h => nomatch h) fun _ H1 e1 => ?_
    refine ⟨_, rfl, ⟨_, rfl⟩, z, "/", rfl, rfl, by decide +kernel, sz_of (by omega), fun p hp => ?_⟩
    have e2 : Ex H (upd H1 p (.lst ((Txt.split z "/").map V.str))) := e1.trans (Ex.new hp)
    generalize hH2 : upd H1 p (.lst ((Txt.split z "/").map V.str)) = H2 at e2
    have hl : H2 p = some (.lst ((Txt.split z "/").map V.str)) := by rw [← hH2]; exact upd_same
    generalize Txt.split z "/" = ns at h2 h3 hl
    refine s_ret (ev_is (ev_andV (a := true) (b := true) (ev_is (ev_op (ev_len (ev_var rfl) (sq_of hl)) ev_c rv_I0) (by rw [List.length_map, decide_eq_true (show (ns.length : Int) ≤ 3 by omega)])) fun _ => ev_is (ev_all (bs := List.replicate ns.length true) ?_) ?_) rfl) fun H3 e3 => k H3 (e2.trans e3)
    · have e : (List.replicate ns.length true).map V.bl = given (ns.map V.str).length (fun _ => true) (fun _ => V.bl true) := by
        rw [given_all, List.map_replicate, List.map_const', List.length_range, List.length_map]
      rw [e]
      refine el_lcW _ _ (wi_list (ev_var rfl) (sq_of hl)) walk_list (by rw [List.length_map]; omega) (fun H3 e3 => sq_of (e3 _ _ hl)) fun i H1 x H2 hi e1 y R hR => ?_
      obtain ⟨rfl, hx⟩ := y
      rw [List.getElem?_map] at hx
      obtain ⟨n, hn, rfl⟩ := Option.map_eq_some_iff.mp hx
      exact hR _ _ (Ex.refl _) rfl et_yes fun _ => ev_callV (ea_cons (ev_var rfl) ea_nil) fun H3 _ Q q => ⟨n, rfl, h3 n (List.mem_of_getElem? hn), q⟩
    · show V.bl ((List.replicate ns.length true).all id) = V.bl true
      rw [List.all_replicate]
      simp
end
section
variable {P : Program} {w : World} {K : PySem.W.Frag} {mg : Str → Option Value} {base : Heap}
abbrev n_check_page : List Str := ["value"]
theorem sc_check_page : FnScope n_check_page ["value"] (defScope s_check_page) := C8.fnScope_by (by decide +kernel)
def sp_check_page : Sp := fun vs H Q _ => ∃ z : Str, vs = [.str z] ∧ z ∈ pagesL ∧ RetV .non H Q
theorem ok_check_page  (T : Ctx K mg) : C8.Cal P w K mg base 3 "check_page" (sp_check_page) [] := by
  refine cal_of T.f_check_page (T.glo _ (by decide)) (N := n_check_page) sc_check_page (fun _ _ _ _ _ _ us hl => match us, hl with | [_], _ => rfl) (fun vs H Q E h => ?len) (fun cdv A outer s H vs Q E hr h => ?body)
  case len =>
    obtain ⟨_, rfl, _⟩ := h
    rfl
  case body =>
    obtain ⟨z, rfl, hz, k⟩ := h
    refine ⟨_, (pss_one (ps_if (pt_not (pt_val (C8.pe_c (ok_is_page T) hr (by decide) (by rfl) (pa_cons (pv 0) pa_nil)))) (pss_one ps_never) pss_nil)), ?_⟩
    exact s_if (et_not (a := true) (et_B (ev_callV (ea_cons (ev_var rfl) ea_nil) fun H1 _ Q q => ⟨z, rfl, hz, q⟩))) (fun h => nomatch h) fun _ H1 e => k H1 e
end
section
variable {P : Program} {w : World} {K : PySem.W.Frag} {mg : Str → Option Value} {base : Heap}
abbrev n_check_number : List Str := ["value", "least", "most"]
theorem sc_check_number : FnScope n_check_number ["value", "least", "most"] (defScope s_check_number) := C8.fnScope_by (by decide +kernel)
def sp_check_number : Sp := fun vs H Q _ => ∃ n a b : Int, vs = [.int n, .int a, .int b] ∧ a ≤ n ∧ n ≤ b ∧ RetV .non H Q
theorem ok_check_number  (T : Ctx K mg) : C8.Cal P w K mg base 3 "check_number" (sp_check_number) [] := by
  refine cal_of T.f_check_number (T.glo _ (by decide)) (N := n_check_number) sc_check_number (fun _ _ _ _ _ _ us hl => match us, hl with | [_, _, _], _ => rfl) (fun vs H Q E h => ?len) (fun cdv A outer s H vs Q E hr h => ?body)
  case len =>
    obtain ⟨_, _, _, rfl, _⟩ := h
    rfl
  case body =>
    obtain ⟨n, a, b, rfl, h1, h2, k⟩ := h
    refine ⟨_, (pss_one (ps_if (pt_not (pt_val (C8.pe_c (ok_is_between T) hr (by decide) (by rfl) (pa_cons (pv 0) (pa_cons (pv 1) (pa_cons (pv 2) pa_nil)))))) (pss_one ps_never) pss_nil)), ?_⟩
    exact s_if (et_not (a := true) (et_B (ev_callV (ea_cons (ev_var rfl) (ea_cons (ev_var rfl) (ea_cons (ev_var rfl) ea_nil))) fun H1 _ Q q => ⟨n, a, b, rfl, h1, h2, q⟩))) (fun h => nomatch h) fun _ H1 e => k H1 e
end
section
variable {P : Program} {w : World} {K : PySem.W.Frag} {mg : Str → Option Value} {base : Heap}
abbrev n_check_kind : List Str := ["value"]
theorem sc_check_kind : FnScope n_check_kind ["value"] (defScope s_check_kind) := C8.fnScope_by (by decide +kernel)
def sp_check_kind : Sp := fun vs H Q _ => ∃ z : Str, vs = [.str z] ∧ (z = "read" ∨ z = "write") ∧ RetV .non H Q
theorem ok_check_kind  (T : Ctx K mg) : C8.Cal P w K mg base 1 "check_kind" (sp_check_kind) [] := by
  refine cal_of T.f_check_kind (T.glo _ (by decide)) (N := n_check_kind) sc_check_kind (fun _ _ _ _ _ _ us hl => match us, hl with | [_], _ => rfl) (fun vs H Q E h => ?len) (fun cdv A outer s H vs Q E hr h => ?body)
  case len =>
    obtain ⟨_, rfl, _⟩ := h
    rfl
  case body =>
    obtain ⟨z, rfl, hz, k⟩ := h
    refine ⟨_, (pss_one (ps_if (PW.pt (pw_or (pt_not (pt_val (pe_callB (call_isiF (K := K)) (by rfl) (T.free _ (by decide)) (by decide +kernel) (pa_cons (pv 0) (pa_cons (pe_bltn (v := .ty "str") (by rfl) (T.free _ (by decide)) (by decide +kernel) rfl) pa_nil))))) (pw_or1 (pt_cmpR (op_notIn_seqK (K := K)) (pv 0) (C8.pe_gc (v := .ref (He.ga K "KINDS")) (by rfl) ⟨_, T.kindsG, rfl⟩) (by rfl))))) (pss_one ps_never) pss_nil)), ?_⟩
    refine s_if (et_is (et_or (a := false) (b := false) (et_not (a := true) (et_B (ev_isi (ev_var rfl) (.ty "str") (fun _ _ => ty_str) (kit_ty (by decide +kernel))))) fun _ => et_is (et_test (ev_op (ev_var rfl) ev_c (rv_niT (T.kinds H) rfl rfl))) ?_) rfl) (fun h => nomatch h) fun _ H1 e => k H1 e
    rcases hz with rfl | rfl <;> decide +kernel
end
section
variable {P : Program} {w : World} {K : PySem.W.Frag} {mg : Str → Option Value} {base : Heap}
abbrev n_is_rule : List Str := ["value"]
theorem sc_is_rule : FnScope n_is_rule ["value"] (defScope s_is_rule) := C8.fnScope_by (by decide +kernel)
def sp_is_rule (K : PySem.W.Frag) : Sp := fun vs H Q _ => ∃ r : Nat, vs = [.ref (fR K r)] ∧ r < 6 ∧ RetV (.bl true) H Q
theorem ok_is_rule  (T : Ctx K mg) : C8.Cal P w K mg base 1 "is_rule" (sp_is_rule K) [] := by
  refine cal_of T.f_is_rule (T.glo _ (by decide)) (N := n_is_rule) sc_is_rule (fun _ _ _ _ _ _ us hl => match us, hl with | [_], _ => rfl) (fun vs H Q E h => ?len) (fun cdv A outer s H vs Q E hr h => ?body)
  case len =>
    obtain ⟨_, rfl, _⟩ := h
    rfl
  case body =>
    obtain ⟨r, rfl, hr6, k⟩ := h
    refine ⟨_, (pss_one (ps_ret (pe_and (pe_cmpR op_notN (pv 0) pe_non (by rfl)) (pe_one (pe_not (pe_callB (call_isiTF (K := K)) (by rfl) (T.free _ (by decide)) (by decide +kernel) (pa_cons (pv 0) (pa_cons (pe_tup (pa_cons (pe_bltn (v := .ty "int") (by rfl) (T.free _ (by decide)) (by decide +kernel) rfl) (pa_cons (pe_bltn (v := .ty "str") (by rfl) (T.free _ (by decide)) (by decide +kernel) rfl) (pa_cons (pe_bltn (v := .ty "list") (by rfl) (T.free _ (by decide)) (by decide +kernel) rfl) (pa_cons (pe_bltn (v := .ty "tuple") (by rfl) (T.free _ (by decide)) (by decide +kernel) rfl) (pa_cons (pe_bltn (v := .ty "dict") (by rfl) (T.free _ (by decide)) (by decide +kernel) rfl) pa_nil)))))) pa_nil)))))))), ?_⟩
    obtain ⟨o, h1, h2⟩ := T.ruleT r hr6
    refine s_ret (ev_is (ev_andV (a := true) (b := true) (ev_is (ev_op (ev_var rfl) ev_c fun H1 _ Q q => ⟨rfl, q H1 (Ex.refl H1)⟩) rfl) fun _ => ev_is (ev_notV (a := false) fun H1 e Q q => ?_) rfl) rfl) k
    refine ⟨_, rfl, sz_of (by decide), fun p hp => ⟨_, p, _, _, [.type "int", .type "str", .type "list", .type "tuple", .type "dict"], false, rfl, upd_same, .cons (.ty _) (.cons (.ty _) (.cons (.ty _) (.cons (.ty _) (.cons (.ty _) .nil)))), .fn h1 h2, ?_, q _ (Ex.new hp)⟩⟩
    exact kitAny_cons (b := false) (kit_ty (by decide +kernel)) (fun _ => kitAny_cons (b := false) (kit_ty (by decide +kernel)) (fun _ => kitAny_cons (b := false) (kit_ty (by decide +kernel)) (fun _ => kitAny_cons (b := false) (kit_ty (by decide +kernel)) (fun _ => kitAny_cons (b := false) (kit_ty (by decide +kernel)) (fun _ => kitAny_nil) fun h => nomatch h) fun h => nomatch h) fun h => nomatch h) fun h => nomatch h) fun h => nomatch h
end
section
variable {P : Program} {w : World} {K : PySem.W.Frag} {mg : Str → Option Value} {base : Heap}
abbrev n_check_rule : List Str := ["value"]
theorem sc_check_rule : FnScope n_check_rule ["value"] (defScope s_check_rule) := C8.fnScope_by (by decide +kernel)
def sp_check_rule (K : PySem.W.Frag) : Sp := fun vs H Q _ => ∃ r : Nat, vs = [.ref (fR K r)] ∧ r < 6 ∧ RetV .non H Q
theorem ok_check_rule  (T : Ctx K mg) : C8.Cal P w K mg base 2 "check_rule" (sp_check_rule K) [] := by
  refine cal_of T.f_check_rule (T.glo _ (by decide)) (N := n_check_rule) sc_check_rule (fun _ _ _ _ _ _ us hl => match us, hl with | [_], _ => rfl) (fun vs H Q E h => ?len) (fun cdv A outer s H vs Q E hr h => ?body)
  case len =>
    obtain ⟨_, rfl, _⟩ := h
    rfl
  case body =>
    obtain ⟨r, rfl, hr6, k⟩ := h
    refine ⟨_, (pss_one (ps_if (pt_not (pt_val (C8.pe_c (ok_is_rule T) hr (by decide) (by rfl) (pa_cons (pv 0) pa_nil)))) (pss_one ps_never) pss_nil)), ?_⟩
    exact s_if (et_not (a := true) (et_B (ev_callV (ea_cons (ev_var rfl) ea_nil) fun H1 _ Q q => ⟨r, rfl, hr6, q⟩))) (fun h => nomatch h) fun _ H1 e => k H1 e
end
section
variable {P : Program} {w : World} {K : PySem.W.Frag} {mg : Str → Option Value} {base : Heap}
abbrev n_size_in : List Str := ["sizes", "page"]
theorem sc_size_in : FnScope n_size_in ["sizes", "page"] (defScope s_size_in) := C8.fnScope_by (by decide +kernel)
def sp_size_in : Sp := fun vs H Q _ => ∃ (d : Addr) (z : Szs) (p : Str), vs = [.ref d, .str p] ∧ H d = some (.dK (szK z)) ∧ RetV (.int (szOf z p)) H Q
theorem ok_size_in  (T : Ctx K mg) : C8.Cal P w K mg base 1 "size_in" (sp_size_in) [] := by
  refine cal_of T.f_size_in (T.glo _ (by decide)) (N := n_size_in) sc_size_in (fun _ _ _ _ _ _ us hl => match us, hl with | [_, _], _ => rfl) (fun vs H Q E h => ?len) (fun cdv A outer s H vs Q E hr h => ?body)
  case len =>
    obtain ⟨_, _, _, rfl, _⟩ := h
    rfl
  case body =>
    obtain ⟨d, z, p, rfl, hd, k⟩ := h
    refine ⟨_, (pss_one (ps_ret (pe_dget2 (hu_of hr) (pv 0) (pv 1) pe_int ⟨by rfl, by rfl, by rfl, by rfl⟩))), ?_⟩
    exact s_ret (ev_is (ev_dget2 (k := .inr p) (ev_var rfl) (ev_var rfl) ev_c hd) (szOf_val z p)) k
end
section
variable {P : Program} {w : World} {K : PySem.W.Frag} {mg : Str → Option Value} {base : Heap}
abbrev n_check_sizes : List Str := ["value", "page", "size"]
theorem sc_check_sizes : FnScope n_check_sizes ["value"] (defScope s_check_sizes) := C8.fnScope_by (by decide +kernel)
def sp_check_sizes : Sp := fun vs H Q _ => ∃ (d : Addr) (z : Szs), vs = [.ref d] ∧ H d = some (.dK (szK z)) ∧ SzOk z ∧ RetV .non H Q
theorem ok_check_sizes  (T : Ctx K mg) : C8.Cal P w K mg base 3 "check_sizes" (sp_check_sizes) [] := by
  refine cal_of T.f_check_sizes (T.glo _ (by decide)) (N := n_check_sizes) sc_check_sizes (fun _ _ _ _ _ _ us hl => match us, hl with | [_], _ => rfl) (fun vs H Q E h => ?len) (fun cdv A outer s H vs Q E hr h => ?body)
  case len =>
    obtain ⟨_, _, rfl, _⟩ := h
    rfl
  case body =>
    obtain ⟨d, z, rfl, hd, hz, k⟩ := h
    refine ⟨_, (pss_cons (ps_if (pt_cmpR op_isN (pv 0) pe_non (by rfl)) (pss_one ps_retN) pss_nil) (pss_cons (ps_if (pt_not (pt_val (pe_callB (call_isiF (K := K)) (by rfl) (T.free _ (by decide)) (by decide +kernel) (pa_cons (pv 0) (pa_cons (pe_bltn (v := .ty "dict") (by rfl) (T.free _ (by decide)) (by decide +kernel) rfl) pa_nil))))) (pss_one ps_never) pss_nil) (pss_one (ps_lock (ps_for PassesOwn.never (by rfl) (pi_items (pv 0)) (pg_tupK (K := K) (n := 2) (by rfl) (pgs_cons (pg_name (i := 1) sc_check_sizes.nd rfl (Or.inl rfl)) (pgs_cons (pg_name (i := 2) sc_check_sizes.nd rfl (Or.inl rfl)) pgs_nil))) (pss_one (ps_if (PW.pt (pw_or (pt_not (pt_val (C8.pe_c (ok_is_page T) hr (by decide) (by rfl) (pa_cons (pv 1) pa_nil)))) (pw_or1 (pt_not (pt_val (C8.pe_c (ok_is_between T) hr (by decide) (by rfl) (pa_cons (pv 2) (pa_cons pe_int (pa_cons (C8.pe_gc (v := .int 1000000) (by rfl) (const_of T.mostSize)) pa_nil))))))))) (pss_one ps_never) pss_nil))))))), ?_⟩
    refine q_when (et_B (ev_is (ev_op (ev_var rfl) ev_c fun H1 _ Q q => ⟨rfl, q H1 (Ex.refl H1)⟩) rfl)) (fun h => nomatch h) fun _ H1 e1 => ?_
    refine q_when (et_not (a := true) (et_B (ev_isi (ev_var rfl) (.ty "dict") (fun _ e => ty_dK (e _ _ (e1 _ _ hd))) (kit_ty (by decide +kernel))))) (fun h => nomatch h) fun _ H2 e2 => ?_
    have hd2 := e2 _ _ (e1 _ _ hd)
    refine ⟨d, _, hd2, trivial, fun od => ?_⟩
    refine ⟨_, rfl, d, od, szK z, rfl, upd_same, for_it walk_items (fun _ σ' H' => Ex (upd H2 d (.frz od (.dK (szK z)))) H' ∧ ∃ a b, σ' = [some (.ref d), a, b]) ⟨Ex.refl _, _, _, rfl⟩ (fun i σ' H' _ p => p.1 _ _ upd_same) ?_ fun σ' H' p => ⟨p.1 _ _ upd_same, k _ (e1.trans (e2.trans (lock_ex hd2 p.1)))⟩⟩
    rintro i x σ' H' H3 hi ⟨p, a, b, rfl⟩ ⟨t, kx, vx, rfl, ht, rfl, h1, h2⟩
    dsimp only at h1 h2
    obtain ⟨kv, hkv, rfl⟩ := Option.map_eq_some_iff.mp h1
    rw [hkv] at h2
    cases h2
    unfold szK at hkv
    rw [List.getElem?_map] at hkv
    obtain ⟨⟨pg, n⟩, hq, rfl⟩ := Option.map_eq_some_iff.mp hkv
    obtain ⟨z1, z2, z3⟩ := hz.2 _ (List.mem_of_getElem? hq)
    refine ⟨t, _, rfl, st_of upd_same, rfl, _, _, rfl, _, _, rfl, rfl, ?_⟩
    refine s_if (et_is (et_or (a := false) (b := false) (et_not (a := true) (et_B (ev_callV (ea_cons (ev_var rfl) ea_nil) fun H1 _ Q q => ⟨pg, rfl, z1, q⟩))) fun _ =>
      et_not (a := true) (et_B (ev_callV (ea_cons (ev_var rfl) (ea_cons ev_c (ea_cons ev_c ea_nil))) fun H1 _ Q q => ⟨n, 1, 1000000, rfl, z2, by have : n ≤ 3 := z3; omega, q⟩))) rfl) (fun h => nomatch h) fun _ H4 e4 => ?_
    exact ⟨(p.trans (Ex.new ht)).trans e4, _, _, rfl⟩
end
end N32
set_option Elab.async false
set_option linter.all false
set_option maxRecDepth 100000
set_option maxHeartbeats 4000000

namespace N32
open PySem PySem.Spec PyProof.Rows L2 Evl
/-! ### entries in the heap -/
def EntV (H : Hp) (v : V) (e : Ent) : Prop := ∃ t, v = .ref t ∧ H t = some (.tup e.vs)
structure EntL (H : Hp) (xs : List V) (es : List Ent) : Prop where
  len : xs.length = es.length
  at_ : ∀ (i : Nat) (x : V) (e : Ent), xs[i]? = some x → es[i]? = some e → EntV H x e
theorem EntL.ex {H H' : Hp} {xs : List V} {es : List Ent} (E : EntL H xs es) (e : Ex H H') : EntL H' xs es :=
  ⟨E.len, fun i x y h1 h2 => let ⟨t, a, b⟩ := E.at_ i x y h1 h2; ⟨t, a, e _ _ b⟩⟩
theorem EntL.get {H : Hp} {xs : List V} {es : List Ent} (E : EntL H xs es) {i : Nat} {x : V} (h : xs[i]? = some x) : ∃ e, es[i]? = some e ∧ EntV H x e := by
  have hi : i < es.length := by rw [← E.len]; exact (List.getElem?_eq_some_iff.mp h).1
  exact ⟨es[i], List.getElem?_eq_getElem hi, E.at_ i x _ h (List.getElem?_eq_getElem hi)⟩
theorem takenA_take {es : List Ent} {page : Str} {need : Int} {i : Nat} {e : Ent} (h : es[i]? = some e) : takenA (es.take (i + 1)) page need = takeStep page need (takenA (es.take i) page need) e := by
  unfold takenA
  rw [List.take_add_one, h, List.foldl_append]
  rfl
theorem takenA_len (es : List Ent) (page : Str) (need : Int) : (takenA es page need).1.length ≤ es.length := by
  have h : ∀ (es : List Ent) (acc : List Str × Int), (es.foldl (takeStep page need) acc).1.length ≤ acc.1.length + es.length := by
    intro es
    induction es with
    | nil => intro acc; exact Nat.le_refl _
    | cons e es ih =>
      intro acc
      refine Nat.le_trans (ih _) ?_
      unfold takeStep
      split
      · simp only [List.length_append, List.length_cons, List.length_nil]; omega
      · simp only [List.length_cons]; omega
  have := h es ([], 0)
  simpa [takenA] using this
section
variable {K : PySem.W.Frag} {σ : L2.St} {H : Hp} {ta tb te : TE}
/-- entry[i] -/
theorem ev_ent {v : V} {e : Ent} {i : Int} {y : V} (h : Ev ta σ H v) (he : EntV H v e) (ha : atI e.vs i = some y) : Ev (tOp (rIxT K) ta (tC (.int i))) σ H y := by
  obtain ⟨t, rfl, ht⟩ := he
  exact ev_op h ev_c (rv_ixT (st_of ht) ha)
theorem rv_eq2 {x y : V} {b : Bool} (h : scal x y = true) (e : decide (x = y) = b) : RV rEq x y H (.bl b) := fun H1 _ _ q => ⟨h, by rw [e]; exact q H1 (Ex.refl H1)⟩
theorem rv_ne2 {x y : V} {b : Bool} (h : scal x y = true) (e : (!decide (x = y)) = b) : RV rNe x y H (.bl b) := fun H1 _ _ q => ⟨h, by rw [e]; exact q H1 (Ex.refl H1)⟩
theorem dstr (a b : Str) : decide (V.str a = V.str b) = decide (a = b) := by
  by_cases h : a = b
  · subst h; simp
  · rw [decide_eq_false h, decide_eq_false (fun z => h (V.str.inj z))]
end

theorem takeStep_yes {page : Str} {need : Int} {acc : List Str × Int} {e : Ent} (h : acc.2 < need ∧ e.pg ≠ page) : takeStep page need acc e = (acc.1 ++ [e.pg], acc.2 + e.sz) := if_pos h
theorem takeStep_no {page : Str} {need : Int} {acc : List Str × Int} {e : Ent} (h : ¬ (acc.2 < need ∧ e.pg ≠ page)) : takeStep page need acc e = acc := if_neg h
/-- what holds between two turns of the loop that takes the first entries -/
def TakePv (H : Hp) (es : List Ent) (page : Str) (need : Int) (f : Addr) (τ : Option V → Int → L2.St) (i : Nat) (σ : L2.St) (H' : Hp) : Prop :=
  H f = none ∧ Ex H H' ∧ H' f = some (.lst ((takenA (es.take i) page need).1.map V.str)) ∧ ∃ e, σ = τ e (takenA (es.take i) page need).2
theorem map_snoc (xs : List Str) (y : Str) : (xs ++ [y]).map V.str = xs.map V.str ++ [V.str y] := by rw [List.map_append]; rfl

section
variable {P : Program} {w : World} {K : PySem.W.Frag} {mg : Str → Option Value} {base : Heap}
abbrev n_taken : List Str := ["entries", "page", "need", "found", "freed", "entry"]
theorem sc_taken : FnScope n_taken ["entries", "page", "need"] (defScope s_taken) := C8.fnScope_by (by decide +kernel)
def sp_taken (K : PySem.W.Frag) : Sp := fun vs H Q _ => ∃ (l : Addr) (xs : List V) (es : List Ent) (page : Str) (need : Int), vs = [.ref l, .str page, .int need] ∧ SqL K H l xs ∧ EntL H xs es ∧ es.length ≤ 1000 ∧ RetU ((takenL es page need).map V.str) H Q
theorem ok_taken  (T : Ctx K mg) : C8.Cal P w K mg base 1 "taken" (sp_taken K) [] := by
  refine cal_of T.f_taken (T.glo _ (by decide)) (N := n_taken) sc_taken (fun _ _ _ _ _ _ us hl => match us, hl with | [_, _, _], _ => rfl) (fun vs H Q E h => ?len) (fun cdv A outer s H vs Q E hr h => ?body)
  case len =>
    obtain ⟨_, _, _, _, _, rfl, _⟩ := h
    rfl
  case body =>
    obtain ⟨l, xs, es, page, need, rfl, hl, hE, hn, k⟩ := h
    refine ⟨_, (pss_cons (ps_par (i := 3) (j := 4) (by rfl) sc_taken.nd rfl rfl (by decide) rfl rfl (pa_cons (pe_lst pa_nil) (pa_cons pe_int pa_nil)) (by rfl)) (pss_cons (ps_for PassesOwn.never (by rfl) (pi_listK (K := K) (pv 0)) (pg_name (i := 5) sc_taken.nd rfl (Or.inl rfl)) (pss_one (ps_if (PW.pt (pw_and (pt_cmpR op_lt (pv 4) (pv 2) (by rfl)) (pw_and1 (pt_cmpR op_ne (pe_ix (ix_tupK (K := K)) (pv 5) pe_int (fun _ _ => rfl)) (pv 1) (by rfl))))) (pss_cons (ps_expr (pe_bmK (K := K) PySem.F.plainAttrs_list PySem.F.slot_list_append PySem.F.type_list_append mt_append (pv 3) (pa_cons (pe_ix (ix_tupK (K := K)) (pv 5) pe_int (fun _ _ => rfl)) pa_nil))) (pss_one (ps_aug (i := 4) sc_taken.nd rfl (Or.inl rfl) (pe_ix (ix_tupK (K := K)) (pv 5) pe_int (fun _ _ => rfl)) ip_add))) pss_nil))) (pss_one (ps_ret (pe_callTy (call_tuple_ofK (K := K)) (by rfl) (T.free _ (by decide)) (by decide +kernel) (pa_cons (pv 3) pa_nil)))))), ?_⟩
    refine ⟨Nat.zero_le _, fun f hf => ⟨_, _, rfl, ?_⟩⟩
    have e0 : Ex H (upd H f (.lst [])) := Ex.new hf
    refine q_forLn (ev_var rfl) (ex_l e0 hl) (TakePv H es page need f fun e n => [some (.ref l), some (.str page), some (.int need), some (.ref f), some (.int n), e])
      (fun H1 e1 => ⟨hf, e0.trans e1, e1 _ _ upd_same, _, rfl⟩) (fun i σ' H' _ p => ex_l p.2.1 hl) ?_ ?_
    · rintro i x σ' H' hx ⟨p1, p2, p3, e', rfl⟩
      obtain ⟨e, he, hv⟩ := (hE.ex p2).get hx
      have hst := takenA_take (page := page) (need := need) he
      have hln := takenA_len (es.take i) page need
      rw [List.length_take] at hln
      unfold TakePv
      rw [hst]
      generalize takenA (es.take i) page need = acc at p3 hln ⊢
      refine s_when (et_is (et_and (et_test (ev_op (ev_var rfl) (ev_var rfl) rv_I0)) fun _ => et_test (ev_op (ev_ent (ev_var rfl) hv (y := .str e.pg) rfl) (ev_var rfl) (rv_ne2 (b := !decide (e.pg = page)) rfl (by rw [dstr])))) (b := decide (acc.2 < need ∧ e.pg ≠ page)) (by simp)) (fun hb H1 e1 => ?_) fun hb H1 e1 => ?_
      · have hb := of_decide_eq_true hb
        refine q_app (e1 _ _ p3) (ev_var rfl) (ev_ent (ev_var rfl) (let ⟨t, a, b⟩ := hv; ⟨t, a, e1 _ _ b⟩) (y := .str e.pg) rfl) (by rw [List.length_map]; omega) fun H2 e2 => ?_
        refine s_aug rfl (ev_ent (ev_var rfl) (let ⟨t, a, b⟩ := hv; ⟨t, a, ?_⟩) (y := .int e.sz) rfl) fun H3 e3 => ?_
        · rw [upd_ne (ne_of (e2 _ _ (e1 _ _ b)) (e2 _ _ (e1 _ _ p3)) (by intro z; cases z))]
          exact e2 _ _ (e1 _ _ b)
        · rw [takeStep_yes hb]
          exact ⟨p1, (Ex.mut ((p2.trans e1).trans e2) p1).trans e3, by rw [map_snoc]; exact e3 _ _ upd_same, _, rfl⟩
      · rw [takeStep_no (of_decide_eq_false hb)]
        exact ⟨p1, p2.trans e1, e1 _ _ p3, _, rfl⟩
    · rintro σ' H' ⟨p1, p2, p3, e', rfl⟩
      rw [show es.take xs.length = es by rw [hE.len, List.take_length]] at p3
      exact ⟨_, rfl, f, _, rfl, .inl ⟨sq_of p3, fun p hp => k p _ (fresh_back p2 hp) (p2.trans (Ex.new hp)) upd_same⟩⟩
end
/-! ### what rules are asked and answer -/
def StV (H : Hp) (v : V) : RSt → Prop
  | .none => v = .non
  | .num n => v = .int n
  | .seen xs => ∃ t, v = .ref t ∧ H t = some (.tup (xs.map V.str))
theorem StV.ex {H H' : Hp} {v : V} {st : RSt} (h : StV H v st) (e : Ex H H') : StV H' v st := by
  cases st with
  | none => exact h
  | num n => exact h
  | seen xs => obtain ⟨t, a, b⟩ := h; exact ⟨t, a, e _ _ b⟩
/-- no answer -/
inductive BadV (H : Hp) : V → Prop where
  | non : BadV H .non
  | int (i : Int) : BadV H (.int i)
  | lst {l : Addr} {xs : List V} (h : H l = some (.lst xs)) : BadV H (.ref l)
  | tup3 {t : Addr} {a b c : V} (h : H t = some (.tup [a, b, c])) : BadV H (.ref t)
  | tupL {t l : Addr} {a : V} {xs : List V} (h : H t = some (.tup [a, .ref l])) (h2 : H l = some (.lst xs)) : BadV H (.ref t)
  | tupI {t u : Addr} {a : V} {i : Int} (h : H t = some (.tup [a, .ref u])) (h2 : H u = some (.tup [.int i])) : BadV H (.ref t)
  | tupT {t u l : Addr} {a : V} {xs : List V} (h : H t = some (.tup [a, .ref u])) (h2 : H u = some (.tup [.ref l])) (h3 : H l = some (.lst xs)) : BadV H (.ref t)
theorem BadV.ex {H H' : Hp} {v : V} (h : BadV H v) (e : Ex H H') : BadV H' v := by
  cases h with
  | non => exact .non
  | int i => exact .int i
  | lst h => exact .lst (e _ _ h)
  | tup3 h => exact .tup3 (e _ _ h)
  | tupL h h2 => exact .tupL (e _ _ h) (e _ _ h2)
  | tupI h h2 => exact .tupI (e _ _ h) (e _ _ h2)
  | tupT h h2 h3 => exact .tupT (e _ _ h) (e _ _ h2) (e _ _ h3)
def AnsV (H : Hp) (v : V) : Ans → Prop
  | .ok st out => ∃ t u sv, v = .ref t ∧ H t = some (.tup [sv, .ref u]) ∧ StV H sv st ∧ H u = some (.tup (out.map V.str))
  | .no st => ∃ t sv, v = .ref t ∧ H t = some (.tup [sv, .non]) ∧ StV H sv st
  | .bad => BadV H v
theorem AnsV.ex {H H' : Hp} {v : V} {a : Ans} (h : AnsV H v a) (e : Ex H H') : AnsV H' v a := by
  cases a with
  | ok st out => obtain ⟨t, u, sv, a, b, c, d⟩ := h; exact ⟨t, u, sv, a, e _ _ b, c.ex e, e _ _ d⟩
  | no st => obtain ⟨t, sv, a, b, c⟩ := h; exact ⟨t, sv, a, e _ _ b, c.ex e⟩
  | bad => exact BadV.ex h e
/-- what a rule may be asked -/
structure RuleOk (r : Nat) (st : RSt) (es : List Ent) : Prop where
  len : es.length ≤ 60
  st : StOk r st 200
def sp_rule (K : PySem.W.Frag) (r : Nat) : Sp := fun vs H Q _ => ∃ (sv : V) (l : Addr) (xs : List V) (es : List Ent) (page : Str) (need : Int) (st : RSt), vs = [sv, .ref l, .str page, .int need] ∧ StV H sv st ∧ SqL K H l xs ∧ EntL H xs es ∧ RuleOk r st es ∧
  ∀ v H', Ex H H' → AnsV H' v (ruleF r st es page need) → Q v H'
theorem EntL.reverse {H : Hp} {xs : List V} {es : List Ent} (E : EntL H xs es) : EntL H xs.reverse es.reverse := by
  refine ⟨by rw [List.length_reverse, List.length_reverse, E.len], fun i x e h1 h2 => ?_⟩
  have hi : i < xs.length := by have := (List.getElem?_eq_some_iff.mp h1).1; rwa [List.length_reverse] at this
  rw [List.getElem?_reverse hi] at h1
  rw [List.getElem?_reverse (by rw [← E.len]; exact hi), ← E.len] at h2
  exact E.at_ _ x e h1 h2
theorem EntL.drop {H : Hp} {xs : List V} {es : List Ent} (E : EntL H xs es) (n : Nat) : EntL H (xs.drop n) (es.drop n) := by
  refine ⟨by rw [List.length_drop, List.length_drop, E.len], fun i x e h1 h2 => ?_⟩
  rw [List.getElem?_drop] at h1 h2
  exact E.at_ _ x e h1 h2
theorem EntL.take {H : Hp} {xs : List V} {es : List Ent} (E : EntL H xs es) (n : Nat) : EntL H (xs.take n) (es.take n) := by
  refine ⟨by rw [List.length_take, List.length_take, E.len], fun i x e h1 h2 => ?_⟩
  rw [List.getElem?_take] at h1 h2
  split at h1
  · rename_i h
    rw [if_pos h] at h2
    exact E.at_ _ x e h1 h2
  · cases h1
theorem EntL.append {H : Hp} {xs ys : List V} {es fs : List Ent} (E : EntL H xs es) (F : EntL H ys fs) : EntL H (xs ++ ys) (es ++ fs) := by
  refine ⟨by rw [List.length_append, List.length_append, E.len, F.len], fun i x e h1 h2 => ?_⟩
  by_cases h : i < xs.length
  · rw [List.getElem?_append_left h] at h1
    rw [List.getElem?_append_left (by rw [← E.len]; exact h)] at h2
    exact E.at_ _ x e h1 h2
  · rw [List.getElem?_append_right (by omega)] at h1
    rw [List.getElem?_append_right (by rw [← E.len]; omega), ← E.len] at h2
    exact F.at_ _ x e h1 h2
section
variable {K : PySem.W.Frag} {σ : L2.St} {H : Hp} {ta tb te : TE} {t : TT}
theorem el_if {b : Bool} {xs : List V} (h : EvT t σ H b) (h1 : b = true → EvL ta σ H xs) (h2 : b = false → EvL tb σ H xs) : EvL (tIf t ta tb) σ H xs := fun H1 e Q q => h H1 e _ fun H2 e2 => by
  cases b with
  | true => exact h1 rfl H2 (e.trans e2) Q fun p H3 hp e3 h3 => q p H3 (fresh_back e2 hp) (e2.trans e3) h3
  | false => exact h2 rfl H2 (e.trans e2) Q fun p H3 hp e3 h3 => q p H3 (fresh_back e2 hp) (e2.trans e3) h3
theorem el_rev {a : Addr} {xs : List V} (h : Ev ta σ H (.ref a)) (hx : SqL K H a xs) : EvL (tRevL K ta) σ H xs.reverse := fun H1 e Q q =>
  h H1 e _ fun H2 e2 => ⟨a, xs, rfl, ex_l (e.trans e2) hx, fun p hp => q p _ (fresh_back e2 hp) (e2.trans (Ex.new hp)) upd_same⟩
theorem el_cat {xs ys : List V} (ha : EvL ta σ H xs) (hb : EvL tb σ H ys) (hl : xs.length + ys.length ≤ 100000) : EvL (tOp rCat ta tb) σ H (xs ++ ys) := fun H1 e Q q =>
  ha H1 e _ fun p H2 _ e2 h2 => hb H2 (e.trans e2) _ fun p' H3 _ e3 h3 => ⟨p, p', xs, ys, rfl, rfl, e3 _ _ h2, h3, sz_of hl, fun r hr => q r _ (fresh_back (e2.trans e3) hr) ((e2.trans e3).trans (Ex.new hr)) upd_same⟩
theorem cut_from {xs : List V} {i : Int} (h0 : 0 ≤ i) : cutV xs (some i) none = xs.drop i.toNat := by
  unfold cutV
  obtain ⟨k, rfl⟩ : ∃ k : Nat, i = (k : Int) := ⟨i.toNat, by omega⟩
  rw [HT.sIx_nat, HT.sIx_none, Int.toNat_natCast]
  by_cases h : k ≤ xs.length
  · rw [Nat.min_eq_left h, List.take_of_length_le (by rw [List.length_drop]; exact Nat.le_refl _)]
  · rw [Nat.min_eq_right (by omega), List.drop_of_length_le (Nat.le_refl _), List.drop_of_length_le (by omega), List.take_nil]
theorem cut_to {xs : List V} {i : Int} (h0 : 0 ≤ i) : cutV xs none (some i) = xs.take i.toNat := by
  unfold cutV
  obtain ⟨k, rfl⟩ : ∃ k : Nat, i = (k : Int) := ⟨i.toNat, by omega⟩
  rw [HT.sIx_nat, HT.sIx_none, Int.toNat_natCast, Nat.sub_zero, List.drop_zero]
  by_cases h : k ≤ xs.length
  · rw [Nat.min_eq_left h]
  · rw [Nat.min_eq_right (by omega), List.take_of_length_le (Nat.le_refl _), List.take_of_length_le (by omega)]
/-- the number of a rule's call -/
theorem ev_count {z : Int} {sv : V} {st : RSt} {ti : TT} (h : Ev ta σ H sv) (hs : StV H sv st) (hn : ∀ xs, st ≠ .seen xs) (hi : EvT ti σ H (decide (sv = .non))) : Ev (tIf ti (tC (.int z)) (tOp (rI0 fun i j => .int (i + j)) ta (tC (.int 1)))) σ H (.int (st.count z)) := by
  cases st with
  | none =>
    cases hs
    exact ev_if hi (fun _ => ev_c) fun h => nomatch h
  | num n =>
    cases hs
    exact ev_if hi (fun h => nomatch h) fun _ => ev_op h ev_c rv_I0
  | seen xs => exact (hn xs rfl).elim
theorem rv_isN {x : V} : RV (fun x y H Q => y = .non ∧ Q (.bl (decide (x = .non))) H) x .non H (.bl (decide (x = .non))) := fun H1 _ _ q => ⟨rfl, q H1 (Ex.refl H1)⟩
theorem rv_notN {x : V} : RV (fun x y H Q => y = .non ∧ Q (.bl (!decide (x = .non))) H) x .non H (.bl (!decide (x = .non))) := fun H1 _ _ q => ⟨rfl, q H1 (Ex.refl H1)⟩
end

section
variable {P : Program} {w : World} {K : PySem.W.Frag} {mg : Str → Option Value} {base : Heap}
abbrev n_l_first : List Str := ["_law_state", "_law_entries", "_law_page", "_law_need", "_law_found", "_law_freed", "_law_entry"]
theorem sc_l_first : FnScope n_l_first ["_law_state", "_law_entries", "_law_page", "_law_need"] (defScope s_l_first) := C8.fnScope_by (by decide +kernel)
abbrev sp_l_first (K : PySem.W.Frag) : Sp := sp_rule K 0
theorem ok_l_first  (T : Ctx K mg) : C8.Cal P w K mg base 1 "_law_first" (sp_l_first K) [] := by
  refine cal_of T.f_l_first (T.glo _ (by decide)) (N := n_l_first) sc_l_first (fun _ _ _ _ _ _ us hl => match us, hl with | [_, _, _, _], _ => rfl) (fun vs H Q E h => ?len) (fun cdv A outer s H vs Q E hr h => ?body)
  case len =>
    obtain ⟨_, _, _, _, _, _, _, rfl, _⟩ := h
    rfl
  case body =>
    obtain ⟨sv, l, xs, es, page, need, st, rfl, hs, hl, hE, hR, k⟩ := h
    refine ⟨_, (pss_cons (ps_par (i := 4) (j := 5) (by rfl) sc_l_first.nd rfl rfl (by decide) rfl rfl (pa_cons (pe_lst pa_nil) (pa_cons pe_int pa_nil)) (by rfl)) (pss_cons (ps_for PassesOwn.never (by rfl) (pi_listK (K := K) (pv 1)) (pg_name (i := 6) sc_l_first.nd rfl (Or.inl rfl)) (pss_one (ps_if (PW.pt (pw_and (pt_cmpR op_lt (pv 5) (pv 3) (by rfl)) (pw_and1 (pt_cmpR op_ne (pe_ix (ix_tupK (K := K)) (pv 6) pe_int (fun _ _ => rfl)) (pv 2) (by rfl))))) (pss_cons (ps_expr (pe_bmK (K := K) PySem.F.plainAttrs_list PySem.F.slot_list_append PySem.F.type_list_append mt_append (pv 4) (pa_cons (pe_ix (ix_tupK (K := K)) (pv 6) pe_int (fun _ _ => rfl)) pa_nil))) (pss_one (ps_set (i := 5) sc_l_first.nd rfl (Or.inl rfl) (pe_op op_add (pv 5) (pe_ix (ix_tupK (K := K)) (pv 6) pe_int (fun _ _ => rfl)))))) pss_nil))) (pss_one (ps_ret (pe_tup (pa_cons (pv 0) (pa_cons (pe_callTy (call_tuple_ofK (K := K)) (by rfl) (T.free _ (by decide)) (by decide +kernel) (pa_cons (pv 4) pa_nil)) pa_nil))))))), ?_⟩
    refine ⟨Nat.zero_le _, fun f hf => ⟨_, _, rfl, ?_⟩⟩
    have e0 : Ex H (upd H f (.lst [])) := Ex.new hf
    have hn := hR.len
    refine q_forLn (ev_var rfl) (ex_l e0 hl) (TakePv H es page need f fun e n => [some sv, some (.ref l), some (.str page), some (.int need), some (.ref f), some (.int n), e])
      (fun H1 e1 => ⟨hf, e0.trans e1, e1 _ _ upd_same, _, rfl⟩) (fun i σ' H' _ p => ex_l p.2.1 hl) ?_ ?_
    · rintro i x σ' H' hx ⟨p1, p2, p3, e', rfl⟩
      obtain ⟨e, he, hv⟩ := (hE.ex p2).get hx
      have hst := takenA_take (page := page) (need := need) he
      have hln := takenA_len (es.take i) page need
      rw [List.length_take] at hln
      unfold TakePv
      rw [hst]
      generalize takenA (es.take i) page need = acc at p3 hln ⊢
      refine s_when (et_is (et_and (et_test (ev_op (ev_var rfl) (ev_var rfl) rv_I0)) fun _ => et_test (ev_op (ev_ent (ev_var rfl) hv (y := .str e.pg) rfl) (ev_var rfl) (rv_ne2 (b := !decide (e.pg = page)) rfl (by rw [dstr])))) (b := decide (acc.2 < need ∧ e.pg ≠ page)) (by simp)) (fun hb H1 e1 => ?_) fun hb H1 e1 => ?_
      · have hb := of_decide_eq_true hb
        refine q_app (e1 _ _ p3) (ev_var rfl) (ev_ent (ev_var rfl) (let ⟨t, a, b⟩ := hv; ⟨t, a, e1 _ _ b⟩) (y := .str e.pg) rfl) (by rw [List.length_map]; omega) fun H2 e2 => ?_
        refine s_asg (ev_op (ev_var rfl) (ev_ent (ev_var rfl) (let ⟨t, a, b⟩ := hv; ⟨t, a, ?_⟩) (y := .int e.sz) rfl) rv_I0) fun H3 e3 => ?_
        · rw [upd_ne (ne_of (e2 _ _ (e1 _ _ b)) (e2 _ _ (e1 _ _ p3)) (by intro z; cases z))]
          exact e2 _ _ (e1 _ _ b)
        · rw [takeStep_yes hb]
          exact ⟨p1, (Ex.mut ((p2.trans e1).trans e2) p1).trans e3, by rw [map_snoc]; exact e3 _ _ upd_same, _, rfl⟩
      · rw [takeStep_no (of_decide_eq_false hb)]
        exact ⟨p1, p2.trans e1, e1 _ _ p3, _, rfl⟩
    · rintro σ' H' ⟨p1, p2, p3, e', rfl⟩
      rw [show es.take xs.length = es by rw [hE.len, List.take_length]] at p3
      refine ⟨_, rfl, _, rfl, f, _, rfl, .inl ⟨sq_of p3, fun u hu => ⟨sz_of (by show 2 ≤ 100000; decide), fun t ht => ?_⟩⟩⟩
      have e2 : Ex H (upd H' u (.tup ((takenA es page need).1.map V.str))) := p2.trans (Ex.new hu)
      exact k _ _ (e2.trans (Ex.new ht)) ⟨t, u, sv, rfl, upd_same, hs.ex (e2.trans (Ex.new ht)), Ex.new ht _ _ upd_same⟩
end
section
variable {P : Program} {w : World} {K : PySem.W.Frag} {mg : Str → Option Value} {base : Heap}
abbrev n_l_turning : List Str := ["_law_state", "_law_entries", "_law_page", "_law_need", "_law_number", "_law_some"]
theorem sc_l_turning : FnScope n_l_turning ["_law_state", "_law_entries", "_law_page", "_law_need"] (defScope s_l_turning) := C8.fnScope_by (by decide +kernel)
abbrev sp_l_turning (K : PySem.W.Frag) : Sp := sp_rule K 1
theorem ok_l_turning  (T : Ctx K mg) : C8.Cal P w K mg base 2 "_law_turning" (sp_l_turning K) [] := by
  refine cal_of T.f_l_turning (T.glo _ (by decide)) (N := n_l_turning) sc_l_turning (fun _ _ _ _ _ _ us hl => match us, hl with | [_, _, _, _], _ => rfl) (fun vs H Q E h => ?len) (fun cdv A outer s H vs Q E hr h => ?body)
  case len =>
    obtain ⟨_, _, _, _, _, _, _, rfl, _⟩ := h
    rfl
  case body =>
    obtain ⟨sv, l, xs, es, page, need, st, rfl, hs, hl, hE, hR, k⟩ := h
    refine ⟨_, (pss_cons (ps_set (i := 4) sc_l_turning.nd rfl (Or.inl rfl) (pe_ifExp (pt_cmpR op_isN (pv 0) pe_non (by rfl)) pe_int (pe_op op_add (pv 0) pe_int))) (pss_cons (ps_set (i := 5) sc_l_turning.nd rfl (Or.inl rfl) (pe_ifExp (pt_cmpR op_eq (pe_op op_mod (pv 4) pe_int) pe_int (by rfl)) (pe_revLK (K := K) (pv 1)) (pe_op op_cat (pe_slice (sl_listK (K := K)) (pv 1) (po_some (pe_op op_mod (pv 4) pe_int)) po_none) (pe_slice (sl_listK (K := K)) (pv 1) po_none (po_some (pe_op op_mod (pv 4) pe_int)))))) (pss_one (ps_ret (pe_tup (pa_cons (pv 4) (pa_cons (pe_ix (ix_tupK (K := K)) (C8.pe_c (ok_l_first T) hr (by decide) (by rfl) (pa_cons pe_non (pa_cons (pv 5) (pa_cons (pv 2) (pa_cons (pv 3) pa_nil))))) pe_int (fun _ _ => rfl)) pa_nil))))))), ?_⟩
    have hn := hR.len
    have hk : ∀ xs, st ≠ .seen xs := fun xs z => by have := hR.st; rw [z] at this; exact this
    refine q_asg (ev_count (ev_var rfl) hs hk (et_test (ev_op (ev_var rfl) ev_c rv_isN))) fun H1 e1 => ?_
    refine q_asgL (xs := if st.count 1 % 3 = 0 then xs.reverse else xs.drop (st.count 1 % 2).toNat ++ xs.take (st.count 1 % 2).toNat)
      (el_if (b := decide (st.count 1 % 3 = 0)) (et_test (ev_op (ev_op (ev_var rfl) ev_c (rv_I (by decide))) ev_c (rv_eq2 rfl (by simp)))) (fun h => ?_) fun h => ?_) fun p H2 hp e2 h2 => ?_
    · rw [if_pos (of_decide_eq_true h)]
      exact el_rev (ev_var rfl) (ex_l e1 hl)
    · rw [if_neg (of_decide_eq_false h)]
      have hm : 0 ≤ st.count 1 % 2 := Int.emod_nonneg _ (by decide)
      rw [← cut_from hm, ← cut_to hm]
      refine el_cat (el_sl (ev_var rfl) (eo_some (ev_op (ev_var rfl) ev_c (rv_I (by decide)))) eo_none (ex_l e1 hl)) (el_sl (ev_var rfl) eo_none (eo_some (ev_op (ev_var rfl) ev_c (rv_I (by decide)))) (ex_l e1 hl)) ?_
      have h1 := cutV_length xs (some (st.count 1 % 2)) none
      have h2 := cutV_length xs none (some (st.count 1 % 2))
      have := hE.len
      omega
    have hE2 : EntL H2 (if st.count 1 % 3 = 0 then xs.reverse else xs.drop (st.count 1 % 2).toNat ++ xs.take (st.count 1 % 2).toNat) (turnO es (st.count 1)) := by
      unfold turnO
      have E2 := hE.ex (e1.trans e2)
      split
      · exact E2.reverse
      · exact (E2.drop _).append (E2.take _)
    have hlen : (turnO es (st.count 1)).length ≤ 60 := by
      unfold turnO
      split
      · rw [List.length_reverse]; exact hn
      · rw [List.length_append, List.length_drop, List.length_take]; omega
    refine ⟨_, rfl, _, rfl, _, rfl, _, rfl, .non, p, _, turnO es (st.count 1), page, need, .none, rfl, rfl, sq_of h2, hE2, ⟨hlen, trivial⟩, fun v H3 e3 ha => ?_⟩
    obtain ⟨t, u, sv', rfl, ht, _, hu⟩ := ha
    refine ⟨t, _, 1, _, rfl, rfl, st_of ht, rfl, sz_of (by show 2 ≤ 100000; decide), fun q hq => ?_⟩
    exact k _ _ (e1.trans (e2.trans (e3.trans (Ex.new hq)))) ⟨q, u, _, rfl, upd_same, rfl, Ex.new hq _ _ hu⟩
end
section
variable {K : PySem.W.Frag} {σ : L2.St} {H : Hp} {ta tb te : TE} {t : TT}
/-- the names of the entries -/
theorem el_names {a : Addr} {xs : List V} {es : List Ent} {tl : TE} {j : Nat} {vs : List Nat} (h : Ev tl σ H (.ref a)) (hx : SqL K H a xs) (hE : EntL H xs es) (hz : xs.length ≤ 40000) (hw : ∀ x, wipe ((wipe σ vs).set j (some x)) vs = wipe σ vs)
    (hj : ∀ x, ((wipe σ vs).set j (some x))[j]? = some (some x)) : EvL (tLc (iList K tl) (gName j) tYes (tOp (rIxT K) (tVar j) (tC (.int 0))) vs) σ H ((namesO es).map V.str) := by
  have e : (namesO es).map V.str = given xs.length (fun _ => true) (fun i => V.str (es.getD i entD).pg) := by
    rw [given_all, hE.len, range_map_get es entD (fun e => V.str e.pg)]
    unfold namesO
    rw [List.map_map]
    rfl
  rw [e]
  refine el_lcW _ _ (wi_list h hx) walk_list hz (fun H1 e1 => ex_l e1 hx) fun i H1 x H2 hi e1 y R hR => ?_
  obtain ⟨rfl, hxi⟩ := y
  obtain ⟨e, he, hv⟩ := (hE.ex e1).get hxi
  refine hR _ _ (Ex.refl _) (hw x) et_yes fun _ => ev_is (ev_ent (ev_var (hj x)) hv rfl) ?_
  rw [List.getD, he]
  rfl
/-- .. of those but one -/
theorem el_namesNe {a : Addr} {xs : List V} {es : List Ent} {tl : TE} {j m : Nat} {vs : List Nat} {page : Str} (h : Ev tl σ H (.ref a)) (hx : SqL K H a xs) (hE : EntL H xs es) (hz : xs.length ≤ 40000) (hw : ∀ x, wipe ((wipe σ vs).set j (some x)) vs = wipe σ vs)
    (hj : ∀ x, ((wipe σ vs).set j (some x))[j]? = some (some x)) (hm : ∀ x, ((wipe σ vs).set j (some x))[m]? = some (some (.str page))) :
    EvL (tLc (iList K tl) (gName j) (tTest (tOp rNe (tOp (rIxT K) (tVar j) (tC (.int 0))) (tVar m))) (tOp (rIxT K) (tVar j) (tC (.int 0))) vs) σ H (((namesO es).filter fun x => decide (x ≠ page)).map V.str) := by
  have e : ((namesO es).filter fun x => decide (x ≠ page)).map V.str = given xs.length (fun i => !decide ((es.getD i entD).pg = page)) (fun i => V.str (es.getD i entD).pg) := by
    unfold given namesO
    rw [hE.len]
    have e2 : es.map (·.pg) = (List.range es.length).map fun i => (es.getD i entD).pg := (range_map_get es entD (fun e => e.pg)).symm
    rw [e2, List.filter_map, List.map_map]
    congr 1
    apply List.filter_congr
    intro i _
    simp
  rw [e]
  refine el_lcW _ _ (wi_list h hx) walk_list hz (fun H1 e1 => ex_l e1 hx) fun i H1 x H2 hi e1 y R hR => ?_
  obtain ⟨rfl, hxi⟩ := y
  obtain ⟨e, he, hv⟩ := (hE.ex e1).get hxi
  have hg : es.getD i entD = e := by rw [List.getD, he]; rfl
  rw [hg] at hR
  exact hR _ _ (Ex.refl _) (hw x) (et_test (ev_op (ev_ent (ev_var (hj x)) hv (y := .str e.pg) rfl) (ev_var (hm x)) (rv_ne2 rfl (by rw [dstr])))) fun _ => ev_ent (ev_var (hj x)) hv rfl
/-- the tuples stay -/
def Tu (H H' : Hp) : Prop := ∀ a xs, H a = some (.tup xs) → H' a = some (.tup xs)
theorem Ex.tu {H H' : Hp} (e : Ex H H') : Tu H H' := fun a xs h => e _ _ h
/-- a comprehension whose items are told by P -/
theorem lc_P {J : It} {n : Nat} {G : Hp → Prop} {Y : Nat → Hp → V → Hp → Prop} {g : TG} {vs : List Nat} {H1 : Hp} {D : Addr} {Qd : Hp → Prop} (P : Nat → V → Hp → Prop) (hP : ∀ i v H H', P i v H → Tu H H' → P i v H') (w : Walk J n G Y) (hn : n ≤ 40000) (hD : H1 D = none) (hG : ∀ H2, Ex H1 H2 → G H2)
    (hs : ∀ i H2 x H3, i < n → Ex H1 H2 → Y i H2 x H3 → ∀ R : L2.St → Hp → Prop, (∀ σ2 H4, Ex H2 H4 → wipe σ2 vs = wipe σ vs → (∀ Q : VK, (∀ v H5, Ex H4 H5 → P i v H5 → Q v H5) → te σ2 H4 Q) → R σ2 H4) → g x (wipe σ vs) H3 R)
    (hd : ∀ ys H2, ys.length = n → (∀ i v, ys[i]? = some v → P i v H2) → Ex H1 H2 → H2 D = some (.lst ys) → Qd H2) :
    ∃ W : Nat → Nat → Hp → Prop, (∃ m, W 0 m (upd H1 D (.lst []))) ∧ ∀ i m H, W i m H →
      (J.stop i H ∧ Qd H) ∨ (J.go i H ∧ ∃ Nx : Hp → Prop, (∀ H', Nx H' → ∃ m', m' < m ∧ W (i + 1) m' H') ∧ ∀ x H', J.yld i H x H' → g x (wipe σ vs) H' fun σ2 H2 => wipe σ2 vs = wipe σ vs ∧ tYes σ2 H2 fun b H3 =>
        if b = true then te σ2 H3 fun y H4 => ∃ acc, H4 D = some (.lst acc) ∧ acc.length < sizeLine ∧ Nx (upd H4 D (.lst (acc ++ [y]))) else Nx H3) := by
  refine lc_it w (fun i H2 => ∃ ys : List V, ys.length = i ∧ (∀ i v, ys[i]? = some v → P i v H2) ∧ Ex H1 H2 ∧ H2 D = some (.lst ys)) ⟨[], rfl, fun i v h => by simp at h, Ex.new hD, upd_same⟩ (fun i H2 _ p => hG H2 (let ⟨_, _, _, e, _⟩ := p; e)) ?_ fun H2 ⟨ys, a, b, c, d⟩ => hd ys H2 a b c d
  rintro i x H2 H3 hi ⟨ys, a, b, c, d⟩ y
  refine hs i H2 x H3 hi c y _ fun σ2 H4 e4 hwp he => ⟨hwp, ?_⟩
  show te σ2 H4 _
  refine he _ fun v H5 e5 hv => ⟨ys, e5 _ _ (e4 _ _ d), sz_lt (by omega), ys ++ [v], by rw [List.length_append, a]; rfl, fun j u hj => ?_, Ex.mut ((c.trans e4).trans e5) hD, upd_same⟩
  have keep : Tu H5 (upd H5 D (.lst (ys ++ [v]))) := fun a xs h => by
    rw [upd_ne (ne_of h (e5 _ _ (e4 _ _ d)) (by intro z; cases z))]
    exact h
  by_cases hji : j < ys.length
  · rw [List.getElem?_append_left hji] at hj
    exact hP _ _ _ _ (hP _ _ _ _ (b j u hj) (Ex.tu (e4.trans e5))) keep
  · rw [List.getElem?_append_right (by omega)] at hj
    have hz : j - ys.length = 0 := by
      have := (List.getElem?_eq_some_iff.mp hj).1
      simp at this
      omega
    rw [hz] at hj
    cases hj
    have e : j = i := by omega
    rw [e]
    exact hP _ _ _ _ hv keep
end

/-- the three ints of a tuple -/
def key3 (H : Hp) (x : V) : Int × Int × Int := match x with
  | .ref t => match H t with
    | some (.tup [.int a, .int b, .int c]) => (a, b, c)
    | _ => (0, 0, 0)
  | _ => (0, 0, 0)
theorem key3_at {H : Hp} {t : Addr} {a b c : Int} (h : H t = some (.tup [.int a, .int b, .int c])) : key3 H (.ref t) = (a, b, c) := by
  unfold key3
  simp only [h]
theorem EntL.of_idx {H : Hp} {xs : List V} {es : List Ent} (E : EntL H xs es) (l : List Nat) (hl : ∀ i ∈ l, i < es.length) : EntL H (l.map fun i => xs.getD i .non) (l.map fun i => es.getD i entD) := by
  refine ⟨by rw [List.length_map, List.length_map], fun i x e h1 h2 => ?_⟩
  rw [List.getElem?_map] at h1 h2
  obtain ⟨j, hj, rfl⟩ := Option.map_eq_some_iff.mp h1
  rw [hj] at h2
  cases h2
  have hlt := hl j (List.mem_of_getElem? hj)
  have h3 : xs[j]? = some (xs.getD j .non) := by
    rw [List.getD, List.getElem?_eq_getElem (by rw [E.len]; exact hlt)]
    rfl
  have h4 : es[j]? = some (es.getD j entD) := by
    rw [List.getD, List.getElem?_eq_getElem hlt]
    rfl
  exact E.at_ j _ _ h3 h4
theorem leastI_mem {es : List Ent} {i : Nat} (h : i ∈ leastI es) : i < es.length := List.mem_range.mp ((List.mergeSort_perm _ _).mem_iff.mp h)

section
variable {K : PySem.W.Frag} {σ : L2.St} {H : Hp} {ta tb te : TE} {tt : TT} {D : Ends} {tz : TS}
/-- it comes to a tuple, new or not -/
def EvW (te : TE) (σ : L2.St) (H : Hp) (xs : List V) : Prop := ∀ H1, Ex H H1 → ∀ Q : VK, (∀ u H2, Ex H1 H2 → H2 u = some (.tup xs) → Q (.ref u) H2) → te σ H1 Q
theorem EvW.mono {H' : Hp} {xs : List V} (e : Ex H H') (h : EvW te σ H xs) : EvW te σ H' xs := fun H1 a Q q => h H1 (e.trans a) Q q
theorem ew_new {xs : List V} (h : EvU te σ H xs) : EvW te σ H xs := fun H1 e Q q => h H1 e Q fun p H2 _ e2 h2 => q p H2 e2 h2
theorem ew_var {i : Nat} {u : Addr} {xs : List V} (h : σ[i]? = some (some (.ref u))) (hu : H u = some (.tup xs)) : EvW (tVar i) σ H xs := fun H1 e Q q => ⟨_, h, q u H1 (Ex.refl _) (e _ _ hu)⟩
theorem ew_if {b : Bool} {xs : List V} (h : EvT tt σ H b) (h1 : b = true → EvW ta σ H xs) (h2 : b = false → EvW tb σ H xs) : EvW (tIf tt ta tb) σ H xs := fun H1 e Q q => h H1 e _ fun H2 e2 => by
  cases b with
  | true => exact h1 rfl H2 (e.trans e2) Q fun p H3 e3 h3 => q p H3 (e2.trans e3) h3
  | false => exact h2 rfl H2 (e.trans e2) Q fun p H3 e3 h3 => q p H3 (e2.trans e3) h3
theorem q_asgW {i : Nat} {xs : List V} (h : EvW te σ H xs) (k : ∀ u H1, Ex H H1 → H1 u = some (.tup xs) → tz D (σ.set i (some (.ref u))) H1) : tSeq (tAsg te (gName i)) tz D σ H := h H (Ex.refl H) _ k
theorem s_asgW {i : Nat} {xs : List V} (h : EvW te σ H xs) (k : ∀ u H1, Ex H H1 → H1 u = some (.tup xs) → D.nx (σ.set i (some (.ref u))) H1) : tAsg te (gName i) D σ H := h H (Ex.refl H) _ k
theorem q_asgD {i : Nat} (h : te σ H fun v H1 => tz D (σ.set i (some v)) H1) : tSeq (tAsg te (gName i)) tz D σ H := h
theorem ew_tupleOf {xs : List V} (h : EvL te σ H xs) : EvW (tCB (fun xs H Q => ∃ p ys, xs = [.ref p] ∧ ((SqL K H p ys ∧ ∀ l, H l = none → Q (.ref l) (upd H l (.tup ys))) ∨ (SqT K H p ys ∧ Q (.ref p) H))) (tCons te tNil)) σ H xs := fun H1 e Q q =>
  h H1 e _ fun p H2 _ e2 h2 => ⟨p, xs, rfl, .inl ⟨sq_of h2, fun u hu => q u _ (e2.trans (Ex.new hu)) upd_same⟩⟩
theorem ret_pair {x : V} {ys : List V} (h1 : Ev ta σ H x) (h2 : EvW tb σ H ys) (k : ∀ t u H', Ex H H' → H' t = some (.tup [x, .ref u]) → H' u = some (.tup ys) → D.rt (.ref t) H') : tRet (tTup (tCons ta (tCons tb tNil))) D σ H :=
  h1 H (Ex.refl _) _ fun H1 e1 => h2 H1 e1 _ fun u H2 e2 hu => ⟨sz_of (by show 2 ≤ 100000; decide), fun t ht => k t u _ ((e1.trans e2).trans (Ex.new ht)) upd_same (Ex.new ht _ _ hu)⟩
/-- the first rule's pages, as other rules ask it -/
theorem ew_first {K' : PySem.W.Frag} (hK : K' = K) {a b c : TE} {l : Addr} {xs : List V} {es : List Ent} {page : Str} {need : Int} (ha : Ev a σ H (.ref l)) (hb : Ev b σ H (.str page)) (hc : Ev c σ H (.int need)) (hl : SqL K H l xs) (hE : EntL H xs es) (hn : es.length ≤ 60) :
    EvW (tOp (rIxT K) (tCall (sp_rule K' 0) [] C8.E0 (tCons (tC .non) (tCons a (tCons b (tCons c tNil))))) (tC (.int 1))) σ H ((takenL es page need).map V.str) := by
  subst hK
  intro H1 e Q q
  refine ha H1 e _ fun H2 e2 => hb H2 (e.trans e2) _ fun H3 e3 => hc H3 ((e.trans e2).trans e3) _ fun H4 e4 => ?_
  have e14 := (e2.trans e3).trans e4
  refine ⟨.non, l, xs, es, page, need, .none, rfl, rfl, ex_l (e.trans e14) hl, hE.ex (e.trans e14), ⟨hn, trivial⟩, fun v H5 e5 hv => ?_⟩
  obtain ⟨t, u, sv, rfl, h1, _, h2⟩ := hv
  exact ⟨t, _, 1, .ref u, rfl, rfl, st_of h1, rfl, q u H5 (e14.trans e5) h2⟩
theorem ew_firstL {K' : PySem.W.Frag} (hK : K' = K) {a b c : TE} {xs : List V} {es : List Ent} {page : Str} {need : Int} (ha : EvL a σ H xs) (hb : Ev b σ H (.str page)) (hc : Ev c σ H (.int need)) (hE : EntL H xs es) (hn : es.length ≤ 60) :
    EvW (tOp (rIxT K) (tCall (sp_rule K' 0) [] C8.E0 (tCons (tC .non) (tCons a (tCons b (tCons c tNil))))) (tC (.int 1))) σ H ((takenL es page need).map V.str) := by
  subst hK
  intro H1 e Q q
  refine ha H1 e _ fun l H2 _ e2 hl => hb H2 (e.trans e2) _ fun H3 e3 => hc H3 ((e.trans e2).trans e3) _ fun H4 e4 => ?_
  have e14 := (e2.trans e3).trans e4
  refine ⟨.non, l, xs, es, page, need, .none, rfl, rfl, sq_of (e4 _ _ (e3 _ _ hl)), hE.ex (e.trans e14), ⟨hn, trivial⟩, fun v H5 e5 hv => ?_⟩
  obtain ⟨t, u, sv, rfl, h1, _, h2⟩ := hv
  exact ⟨t, _, 1, .ref u, rfl, rfl, st_of h1, rfl, q u H5 (e14.trans e5) h2⟩
/-- t + u of tuples -/
theorem ew_cat {xs ys : List V} (ha : EvW ta σ H xs) (hb : EvW tb σ H ys) (hl : xs.length + ys.length ≤ 100000) : EvW (tOp (rCatA K) ta tb) σ H (xs ++ ys) := fun H1 e Q q =>
  ha H1 e _ fun u H2 e2 hu => hb H2 (e.trans e2) _ fun u2 H3 e3 hu2 => ⟨u, u2, xs, ys, rfl, rfl, st_of (e3 _ _ hu), st_of hu2, sz_of hl, fun h => by
    subst h
    exact q u2 H3 (e2.trans e3) hu2, fun _ h => by
    subst h
    rw [List.append_nil] at q
    exact q u H3 (e2.trans e3) (e3 _ _ hu), fun _ _ p hp => q p _ ((e2.trans e3).trans (Ex.new hp)) upd_same⟩
theorem ew_sl {xs : List V} {tl th : TO} {lo hi : Option Int} (ha : EvW ta σ H xs) (h1 : EvO tl σ H lo) (h2 : EvO th σ H hi) : EvW (tSl (rSlA K) ta tl th) σ H (cutV xs lo hi) := fun H1 e Q q =>
  ha H1 e _ fun u H2 e2 hu => h1 H2 (e.trans e2) _ fun H3 e3 => h2 H3 ((e.trans e2).trans e3) _ fun H4 e4 => by
    have hu4 := e4 _ _ (e3 _ _ hu)
    refine ⟨u, xs, rfl, st_of hu4, fun ⟨z1, z2⟩ => ?_, fun _ p hp => q p _ (((e2.trans e3).trans e4).trans (Ex.new hp)) upd_same⟩
    refine q u H4 ((e2.trans e3).trans e4) ?_
    unfold cutV
    rw [z1, z2, List.drop_zero, Nat.sub_zero, List.take_length]
    exact hu4
theorem cut_last2 (xs : List V) : cutV xs (some (-2)) none = xs.drop (xs.length - 2) := by
  unfold cutV
  have h : HT.sIx xs.length 0 (some (-2)) = xs.length - 2 := by
    show (if (-2 : Int) < 0 then (-2 + (xs.length : Int)).toNat else min ((-2 : Int)).toNat xs.length) = _
    rw [if_pos (by decide)]
    omega
  rw [h, HT.sIx_none, List.take_of_length_le (by rw [List.length_drop]; exact Nat.le_refl _)]
theorem ret_pairN {ys : List V} (h1 : EvW ta σ H ys) (k : ∀ t u H', Ex H H' → H' t = some (.tup [.ref u, .non]) → H' u = some (.tup ys) → D.rt (.ref t) H') : tRet (tTup (tCons ta (tCons (tC .non) tNil))) D σ H :=
  h1 H (Ex.refl _) _ fun u H2 e2 hu => ⟨sz_of (by show 2 ≤ 100000; decide), fun t ht => k t u _ (e2.trans (Ex.new ht)) upd_same (Ex.new ht _ _ hu)⟩
/-- it comes to a thing of which P holds -/
def EvQ (te : TE) (σ : L2.St) (H : Hp) (P : V → Hp → Prop) : Prop := ∀ H1, Ex H H1 → ∀ Q : VK, (∀ v H2, Ex H1 H2 → P v H2 → Q v H2) → te σ H1 Q
def EvQs (ta : TA) (σ : L2.St) (H : Hp) (n : Nat) (P : Nat → V → Hp → Prop) : Prop := ∀ H1, Ex H H1 → ∀ Q : List V → Hp → Prop, (∀ vs H2, Ex H1 H2 → vs.length = n → (∀ i v, vs[i]? = some v → P i v H2) → Q vs H2) → ta σ H1 Q
theorem eqs_nil {P : Nat → V → Hp → Prop} : EvQs tNil σ H 0 P := fun H1 _ Q q => q [] H1 (Ex.refl _) rfl fun i v h => by simp at h
theorem eqs_cons {tr : TA} {n : Nat} {P : Nat → V → Hp → Prop} (hP : ∀ i v H H', P i v H → Ex H H' → P i v H') (h : EvQ te σ H (P 0)) (hr : EvQs tr σ H n fun i => P (i + 1)) : EvQs (tCons te tr) σ H (n + 1) P := fun H1 e Q q =>
  h H1 e _ fun v H2 e2 hv => hr H2 (e.trans e2) _ fun vs H3 e3 hl hvs => q (v :: vs) H3 (e2.trans e3) (by rw [List.length_cons, hl]) fun i u hi => by
    cases i with
    | zero => cases hi; exact hP _ _ _ _ hv e3
    | succ i => exact hvs i u hi
theorem eq_ev {x : V} {P : V → Hp → Prop} (h : Ev te σ H x) (hp : ∀ H1, Ex H H1 → P x H1) : EvQ te σ H P := fun H1 e Q q => h H1 e _ fun H2 e2 => q x H2 e2 (hp H2 (e.trans e2))
/-- the pair of a number and a tuple -/
theorem eq_pairW {x : V} {ys : List V} {P : V → Hp → Prop} (h1 : Ev ta σ H x) (h2 : EvW tb σ H ys) (hp : ∀ t u H', Ex H H' → H' t = some (.tup [x, .ref u]) → H' u = some (.tup ys) → P (.ref t) H') : EvQ (tTup (tCons ta (tCons tb tNil))) σ H P := fun H1 e Q q =>
  h1 H1 e _ fun H2 e2 => h2 H2 (e.trans e2) _ fun u H3 e3 hu => ⟨sz_of (by show 2 ≤ 100000; decide), fun t ht => q _ _ ((e2.trans e3).trans (Ex.new ht)) (hp t u _ (e.trans ((e2.trans e3).trans (Ex.new ht))) upd_same (Ex.new ht _ _ hu))⟩
theorem eq_pairL {x : V} {ys : List V} {P : V → Hp → Prop} (h1 : Ev ta σ H x) (h2 : EvL tb σ H ys) (hp : ∀ t u H', Ex H H' → H' t = some (.tup [x, .ref u]) → H' u = some (.lst ys) → P (.ref t) H') : EvQ (tTup (tCons ta (tCons tb tNil))) σ H P := fun H1 e Q q =>
  h1 H1 e _ fun H2 e2 => h2 H2 (e.trans e2) _ fun u H3 _ e3 hu => ⟨sz_of (by show 2 ≤ 100000; decide), fun t ht => q _ _ ((e2.trans e3).trans (Ex.new ht)) (hp t u _ (e.trans ((e2.trans e3).trans (Ex.new ht))) upd_same (Ex.new ht _ _ hu))⟩
theorem q_parLW {i j : Nat} {xs ys : List V} (ha : EvL ta σ H xs) (hb : EvW tb σ H ys) (k : ∀ p u H1, Ex H H1 → H1 p = some (.lst xs) → H1 u = some (.tup ys) → tz D ((σ.set i (some (.ref p))).set j (some (.ref u))) H1) : tSeq (tPar i j (tCons ta (tCons tb tNil))) tz D σ H :=
  ha H (Ex.refl _) _ fun p H1 _ e1 h1 => hb H1 e1 _ fun u H2 e2 h2 => ⟨_, _, rfl, k p u H2 (e1.trans e2) (e2 _ _ h1) h2⟩
theorem q_asgLs {i n : Nat} {tr : TA} {P : Nat → V → Hp → Prop} (h : EvQs tr σ H n P) (hn : n ≤ 100) (k : ∀ p vs H1, Ex H H1 → H1 p = none → vs.length = n → (∀ i v, vs[i]? = some v → P i v H1) → tz D (σ.set i (some (.ref p))) (upd H1 p (.lst vs))) : tSeq (tAsg (tLst tr) (gName i)) tz D σ H :=
  h H (Ex.refl _) _ fun vs H1 e1 hl hv => ⟨sz_of (by omega), fun p hp => k p vs H1 e1 hp hl hv⟩
theorem q_appQ {l : Addr} {xs : List V} {P : V → Hp → Prop} (hl : H l = some (.lst xs)) (ha : Ev ta σ H (.ref l)) (h : EvQ te σ H P) (hz : xs.length < 100000) (k : ∀ v H1, Ex H H1 → P v H1 → tz D σ (upd H1 l (.lst (xs ++ [v])))) :
    tSeq (tDrop (tBM K "list" rAppend ta (tCons te tNil))) tz D σ H := ha H (Ex.refl H) _ fun H1 e1 =>
  ⟨Or.inl ⟨rfl, xs, sq_of (e1 l _ hl)⟩, h H1 e1 _ fun v H2 e2 hv => ⟨l, xs, v, rfl, rfl, e2 l _ (e1 l _ hl), sz_lt hz, k v H2 (e1.trans e2) hv⟩⟩
theorem q_asgCat {i j m n : Nat} {p : Addr} {xs : List V} {tr : TA} {P : Nat → V → Hp → Prop} (hP : ∀ i v H H', P i v H → Ex H H' → P i v H') (hj : σ[j]? = some (some (.ref p))) (hx : H p = some (.lst xs)) (hm : xs.length = m) (hv : ∀ i v, xs[i]? = some v → P i v H) (h : EvQs tr σ H n fun i => P (m + i)) (hn : m + n ≤ 100)
    (k : ∀ r ys H1, Ex H H1 → H1 r = some (.lst ys) → ys.length = m + n → (∀ i v, ys[i]? = some v → P i v H1) → tz D (σ.set i (some (.ref r))) H1) : tSeq (tAsg (tOp rCat (tVar j) (tLst tr)) (gName i)) tz D σ H := by
  refine ⟨_, hj, h H (Ex.refl _) _ fun vs H1 e1 hl hvs => ⟨sz_of (by omega), fun b hb => ?_⟩⟩
  have e2 := e1.trans (Ex.new (o := .lst vs) hb)
  refine ⟨p, b, xs, vs, rfl, rfl, e2 _ _ hx, upd_same, sz_of (by omega), fun r hr => k r _ _ (e2.trans (Ex.new hr)) upd_same (by rw [List.length_append]; omega) fun i v hi => ?_⟩
  by_cases hlt : i < xs.length
  · rw [List.getElem?_append_left hlt] at hi
    exact hP _ _ _ _ (hv i v hi) (e2.trans (Ex.new hr))
  · rw [List.getElem?_append_right (by omega)] at hi
    have := hP _ _ _ _ (hvs _ v hi) ((Ex.new (o := .lst vs) hb).trans (Ex.new (o := .lst (xs ++ vs)) hr))
    rwa [show m + (i - xs.length) = i by omega] at this
theorem el_rep {xs : List V} {k : Int} (h1 : EvL ta σ H xs) (h2 : Ev tb σ H (.int k)) (hk : 0 ≤ k ∧ k ≤ 100) (hl : xs.length ≤ 1000) : EvL (tOp rRep ta tb) σ H (List.replicate k.toNat xs).flatten := fun H1 e Q q =>
  h1 H1 e _ fun p H2 _ e2 hx => h2 H2 (e.trans e2) _ fun H3 e3 => ⟨p, k, xs, rfl, rfl, e3 _ _ hx, by omega, by omega, sz_of (by
    have h3 : k.toNat ≤ 100 := by omega
    have := Nat.mul_le_mul hl h3
    omega), fun r hr => q r _ (fresh_back (e2.trans e3) hr) ((e2.trans e3).trans (Ex.new hr)) upd_same⟩
theorem el_listW {ys : List V} (h : EvW te σ H ys) : EvL (tCB (fun xs H Q => ∃ p ys, xs = [.ref p] ∧ (SqL K H p ys ∨ SqT K H p ys) ∧ ∀ l, H l = none → Q (.ref l) (upd H l (.lst ys))) (tCons te tNil)) σ H ys := fun H1 e Q q =>
  h H1 e _ fun u H2 e2 hu => ⟨u, ys, rfl, .inr (st_of hu), fun l hl => q l _ (fresh_back e2 hl) (e2.trans (Ex.new hl)) upd_same⟩
theorem ew_tupleV {xs : List V} {p : Addr} (h : Ev te σ H (.ref p)) (hp : H p = some (.lst xs)) : EvW (tCB (fun xs H Q => ∃ p ys, xs = [.ref p] ∧ ((SqL K H p ys ∧ ∀ l, H l = none → Q (.ref l) (upd H l (.tup ys))) ∨ (SqT K H p ys ∧ Q (.ref p) H))) (tCons te tNil)) σ H xs := fun H1 e Q q =>
  h H1 e _ fun H2 e2 => ⟨p, xs, rfl, .inl ⟨sq_of (e2 _ _ (e _ _ hp)), fun u hu => q u _ (e2.trans (Ex.new hu)) upd_same⟩⟩
theorem eq_lst2 {x y : V} {P : V → Hp → Prop} (h1 : Ev ta σ H x) (h2 : Ev tb σ H y) (hp : ∀ l H', Ex H H' → H' l = some (.lst [x, y]) → P (.ref l) H') : EvQ (tLst (tCons ta (tCons tb tNil))) σ H P := fun H1 e Q q =>
  h1 H1 e _ fun H2 e2 => h2 H2 (e.trans e2) _ fun H3 e3 => ⟨sz_of (by show 2 ≤ 100000; decide), fun t ht => q _ _ ((e2.trans e3).trans (Ex.new ht)) (hp t _ (e.trans ((e2.trans e3).trans (Ex.new ht))) upd_same)⟩
theorem eq_tup3 {x y z : V} {P : V → Hp → Prop} (h1 : Ev ta σ H x) (h2 : Ev tb σ H y) (h3 : Ev te σ H z) (hp : ∀ l H', Ex H H' → H' l = some (.tup [x, y, z]) → P (.ref l) H') : EvQ (tTup (tCons ta (tCons tb (tCons te tNil)))) σ H P := fun H1 e Q q =>
  h1 H1 e _ fun H2 e2 => h2 H2 (e.trans e2) _ fun H3 e3 => h3 H3 ((e.trans e2).trans e3) _ fun H4 e4 => ⟨sz_of (by show 3 ≤ 100000; decide), fun t ht => q _ _ (((e2.trans e3).trans e4).trans (Ex.new ht)) (hp t _ (e.trans (((e2.trans e3).trans e4).trans (Ex.new ht))) upd_same)⟩
theorem eq_pairE {x : V} {P : V → Hp → Prop} (h1 : Ev ta σ H x) (hp : ∀ t u l H', Ex H H' → H' t = some (.tup [x, .ref u]) → H' u = some (.tup [.ref l]) → H' l = some (.lst []) → P (.ref t) H') : EvQ (tTup (tCons ta (tCons (tTup (tCons (tLst tNil) tNil)) tNil))) σ H P := fun H1 e Q q =>
  h1 H1 e _ fun H2 e2 => ⟨Nat.zero_le _, fun l hl => ⟨sz_of (by show 1 ≤ 100000; decide), fun u hu => ⟨sz_of (by show 2 ≤ 100000; decide), fun t ht => by
    have e3 := ((Ex.new (o := .lst []) hl).trans (Ex.new (o := .tup [.ref l]) hu)).trans (Ex.new (o := .tup [x, .ref u]) ht)
    exact q _ _ (e2.trans e3) (hp t u l _ ((e.trans e2).trans e3) upd_same (Ex.new ht _ _ upd_same) (Ex.new ht _ _ (Ex.new hu _ _ upd_same)))⟩⟩⟩
end

section
variable {P : Program} {w : World} {K : PySem.W.Frag} {mg : Str → Option Value} {base : Heap}
abbrev n_l_least : List Str := ["_law_state", "_law_entries", "_law_page", "_law_need", "_law_order", "_law_some", "_law_at", "_law_entry", "_law_row"]
theorem sc_l_least : FnScope n_l_least ["_law_state", "_law_entries", "_law_page", "_law_need"] (defScope s_l_least) := C8.fnScope_by (by decide +kernel)
abbrev sp_l_least (K : PySem.W.Frag) : Sp := sp_rule K 2
theorem ok_l_least  (T : Ctx K mg) : C8.Cal P w K mg base 2 "_law_least" (sp_l_least K) [] := by
  refine cal_of T.f_l_least (T.glo _ (by decide)) (N := n_l_least) sc_l_least (fun _ _ _ _ _ _ us hl => match us, hl with | [_, _, _, _], _ => rfl) (fun vs H Q E h => ?len) (fun cdv A outer s H vs Q E hr h => ?body)
  case len =>
    obtain ⟨_, _, _, _, _, _, _, rfl, _⟩ := h
    rfl
  case body =>
    obtain ⟨sv, l, xs, es, page, need, st, rfl, hs, hl, hE, hR, k⟩ := h
    refine ⟨_, (pss_cons (ps_set (i := 4) sc_l_least.nd rfl (Or.inl rfl) (pe_callB (cr_sort3 (K := K)) (by rfl) (T.free _ (by decide)) (by decide +kernel) (pa_cons (pe_lc (own := [("_law_at", 6), ("_law_entry", 7)]) (by rfl) sc_l_least.nd (pi_enumK (K := K) (by rfl) (T.free _ (by decide)) (pa_cons (pv 1) pa_nil)) (blkOk_by (own := [("_law_at", 6), ("_law_entry", 7)]) (N := n_l_least) (sc := defScope s_l_least) (by decide +kernel)) (fun _ _ _ _ _ => pg_tupK (K := K) (n := 2) (by rfl) (pgs_cons (pg_name (i := 6) sc_l_least.nd rfl (Or.inl rfl)) (pgs_cons (pg_name (i := 7) sc_l_least.nd rfl (Or.inl rfl)) pgs_nil))) (fun _ _ _ _ _ => by exact pts_nil) (fun _ _ _ _ _ => by exact (pe_tup (pa_cons (pe_ix (ix_tupK (K := K)) (pv 7) pe_int (fun _ _ => rfl)) (pa_cons (pe_un un_neg (pe_ix (ix_tupK (K := K)) (pv 7) pe_int (fun _ _ => rfl))) (pa_cons (pv 6) pa_nil)))))) pa_nil))) (pss_cons (ps_setLc (i := 5) (own := [("_law_row", 8)]) (by rfl) sc_l_least.nd rfl rfl (sw_true rfl rfl rfl (by decide +kernel)) (pi_listK (K := K) (pv 4)) (blkOk_by (own := [("_law_row", 8)]) (N := n_l_least) (sc := defScope s_l_least) (by decide +kernel)) (fun _ _ _ _ _ => pg_name (i := 8) sc_l_least.nd rfl (Or.inl rfl)) (fun _ _ _ _ _ => by exact pts_nil) (fun _ _ _ _ _ => by exact (pe_ix (ix_listK (K := K)) (pv 1) (pe_ix (ix_tupK (K := K)) (pv 8) pe_int (fun _ _ => rfl)) (fun _ _ => rfl)))) (pss_one (ps_ret (pe_tup (pa_cons (pv 0) (pa_cons (pe_ix (ix_tupK (K := K)) (C8.pe_c (ok_l_first T) hr (by decide) (by rfl) (pa_cons pe_non (pa_cons (pv 5) (pa_cons (pv 2) (pa_cons (pv 3) pa_nil))))) pe_int (fun _ _ => rfl)) pa_nil))))))), ?_⟩
    have hn := hR.len
    have hxl := hE.len
    refine q_asgD ?_
    refine ⟨_, rfl, l, xs, rfl, hl, fun D hD => lc_P (fun i v H => ∃ t, v = .ref t ∧ H t = some (.tup [.int (es.getD i entD).uses, .int (-(es.getD i entD).last), .int (i : Int)])) (fun i v H H' h e => let ⟨t, a, b⟩ := h; ⟨t, a, e _ _ b⟩) walk_enum (by omega) hD (fun H2 e2 => ex_l e2 hl) ?_ ?_⟩
    · rintro i H2 x H3 hi e2 ⟨T1, a, b, rfl, hT, rfl, ha, hb⟩ R hRR
      cases ha
      obtain ⟨e, he, hv⟩ := (hE.ex e2).get hb
      have hg : es.getD i entD = e := by rw [List.getD, he]; rfl
      have hv2 : EntV (upd H2 T1 (.tup [.int (i : Nat), b])) b e := let ⟨t, a, c⟩ := hv; ⟨t, a, Ex.new hT _ _ c⟩
      refine ⟨T1, _, rfl, st_of upd_same, rfl, _, _, rfl, _, _, rfl, rfl, hRR _ _ (Ex.new hT) rfl ?_⟩
      rw [hg]
      intro Q1 q1
      exact eu_tup (ea_cons (ev_ent (ev_var rfl) hv2 rfl) (ea_cons (ev_un (ev_ent (ev_var rfl) hv2 rfl) ru_neg) (ea_cons (ev_var rfl) ea_nil))) (by show 3 ≤ 100000; decide) _ (Ex.refl _) _ fun p H4 _ e4 h4 => q1 _ _ e4 ⟨p, rfl, h4⟩
    intro ys H2 hyl hys e2 hD2
    have hkey : ∀ i v, ys[i]? = some v → key3 H2 v = ((es.getD i entD).uses, -(es.getD i entD).last, (i : Int)) := fun i v h => by
      obtain ⟨t, rfl, ht⟩ := hys i v h
      exact key3_at ht
    refine ⟨D, ys, key3 H2, rfl, sq_of hD2, by omega, fun x hx => ?_, fun zs p hperm hsort hp => ?_⟩
    · obtain ⟨i, hi⟩ := List.mem_iff_getElem?.mp hx
      obtain ⟨t, rfl, ht⟩ := hys i x hi
      exact ⟨t, rfl, by rw [key3_at ht]; exact st_of ht⟩
    have hidx : (zs.map fun z => (key3 H2 z).2.2.toNat) = leastI es := by
      refine least_one ?_ ?_
      · have h2 : (ys.map fun z => (key3 H2 z).2.2.toNat) = List.range es.length := by
          apply List.ext_getElem?
          intro i
          rw [List.getElem?_map]
          by_cases h : i < ys.length
          · rw [List.getElem?_eq_getElem h, List.getElem?_eq_getElem (by rw [List.length_range]; omega), List.getElem_range]
            show some (key3 H2 ys[i]).2.2.toNat = some i
            rw [hkey i _ (List.getElem?_eq_getElem h)]
            rfl
          · rw [List.getElem?_eq_none (by omega), List.getElem?_eq_none (by rw [List.length_range]; omega)]
            rfl
        rw [← h2]
        exact hperm.map _
      · rw [List.pairwise_map]
        refine List.Pairwise.imp_of_mem ?_ hsort
        intro a b ha hb hab
        obtain ⟨i, hi⟩ := List.mem_iff_getElem?.mp (hperm.mem_iff.mp ha)
        obtain ⟨j, hj⟩ := List.mem_iff_getElem?.mp (hperm.mem_iff.mp hb)
        rw [hkey i a hi, hkey j b hj] at hab ⊢
        unfold lex3 at hab
        unfold leastLe
        simp only [Int.toNat_natCast, decide_eq_true_eq] at hab ⊢
        omega
    have e3 : Ex H (upd H2 p (.lst zs)) := e2.trans (Ex.new hp)
    have hzl : zs.length = es.length := by rw [hperm.length_eq, hyl, hxl]
    refine q_asgL (xs := (leastI es).map fun i => xs.getD i .non) ?_ fun p2 H4 hp2 e4 h4 => ?_
    · have hv : ((leastI es).map fun i => xs.getD i .non) = given zs.length (fun _ => true) (fun i => xs.getD (key3 H2 (zs.getD i .non)).2.2.toNat .non) := by
        rw [given_all, range_map_get zs .non (fun z => xs.getD (key3 H2 z).2.2.toNat .non), ← hidx, List.map_map]
        rfl
      rw [hv]
      refine el_lcW _ _ (wi_list (ev_var rfl) (sq_of upd_same)) walk_list (by omega) (fun H5 e5 => sq_of (e5 _ _ upd_same)) fun i H5 x H6 hi e5 y R hRR => ?_
      obtain ⟨rfl, hx⟩ := y
      have hx2 : zs.getD i .non = x := by rw [List.getD, hx]; rfl
      obtain ⟨j, hj⟩ := List.mem_iff_getElem?.mp (hperm.mem_iff.mp (List.mem_of_getElem? hx))
      obtain ⟨t, rfl, ht⟩ := hys j x hj
      have hjl : j < xs.length := by have := (List.getElem?_eq_some_iff.mp hj).1; omega
      rw [hx2, hkey j _ hj] at hRR
      refine hRR _ _ (Ex.refl _) rfl et_yes fun _ => ev_op (ev_var rfl) (ev_op (ev_var rfl) ev_c (rv_ixT (st_of (e5 _ _ (Ex.new hp _ _ ht))) rfl)) (rv_ixL (ex_l (e3.trans e5) hl) ?_)
      refine at_of (j := j) rfl ?_
      rw [Int.toNat_natCast, List.getD, List.getElem?_eq_getElem hjl]
      rfl
    refine ret_pair (ev_var rfl) (ew_first (K := K) rfl (ev_var rfl) (ev_var rfl) (ev_var rfl) (sq_of h4) ((hE.of_idx (leastI es) fun i => leastI_mem).ex (e3.trans e4)) ?_) fun t u H5 e5 ht hu => k _ _ ((e3.trans e4).trans e5) ⟨t, u, sv, rfl, ht, hs.ex ((e3.trans e4).trans e5), hu⟩
    rw [List.length_map]
    unfold leastI
    rw [List.length_mergeSort, List.length_range]
    exact hn
end
section
variable {P : Program} {w : World} {K : PySem.W.Frag} {mg : Str → Option Value} {base : Heap}
abbrev n_l_generous : List Str := ["_law_state", "_law_entries", "_law_page", "_law_need", "_law_number", "_law_some", "_law_entry"]
theorem sc_l_generous : FnScope n_l_generous ["_law_state", "_law_entries", "_law_page", "_law_need"] (defScope s_l_generous) := C8.fnScope_by (by decide +kernel)
abbrev sp_l_generous (K : PySem.W.Frag) : Sp := sp_rule K 3
theorem ok_l_generous  (T : Ctx K mg) : C8.Cal P w K mg base 2 "_law_generous" (sp_l_generous K) [] := by
  refine cal_of T.f_l_generous (T.glo _ (by decide)) (N := n_l_generous) sc_l_generous (fun _ _ _ _ _ _ us hl => match us, hl with | [_, _, _, _], _ => rfl) (fun vs H Q E h => ?len) (fun cdv A outer s H vs Q E hr h => ?body)
  case len =>
    obtain ⟨_, _, _, _, _, _, _, rfl, _⟩ := h
    rfl
  case body =>
    obtain ⟨sv, l, xs, es, page, need, st, rfl, hs, hl, hE, hR, k⟩ := h
    refine ⟨_, (pss_cons (ps_set (i := 4) sc_l_generous.nd rfl (Or.inl rfl) (pe_ifExp (pt_cmpR op_isN (pv 0) pe_non (by rfl)) pe_int (pe_op op_add (pv 0) pe_int))) (pss_cons (ps_set (i := 5) sc_l_generous.nd rfl (Or.inl rfl) (pe_ix (ix_tupK (K := K)) (C8.pe_c (ok_l_first T) hr (by decide) (by rfl) (pa_cons pe_non (pa_cons (pv 1) (pa_cons (pv 2) (pa_cons (pv 3) pa_nil))))) pe_int (fun _ _ => rfl))) (pss_cons (ps_if (pt_cmpR op_eq (pe_op op_mod (pv 4) pe_int) pe_int (by rfl)) (pss_one (ps_set (i := 5) sc_l_generous.nd rfl (Or.inl rfl) (pe_callTy (call_tuple_ofK (K := K)) (by rfl) (T.free _ (by decide)) (by decide +kernel) (pa_cons (pe_lc (own := [("_law_entry", 6)]) (by rfl) sc_l_generous.nd (pi_listK (K := K) (pv 1)) (blkOk_by (own := [("_law_entry", 6)]) (N := n_l_generous) (sc := defScope s_l_generous) (by decide +kernel)) (fun _ _ _ _ _ => pg_name (i := 6) sc_l_generous.nd rfl (Or.inl rfl)) (fun _ _ _ _ _ => by exact (pts_one (pt_cmpR op_ne (pe_ix (ix_tupK (K := K)) (pv 6) pe_int (fun _ _ => rfl)) (pv 2) (by rfl)))) (fun _ _ _ _ _ => by exact (pe_ix (ix_tupK (K := K)) (pv 6) pe_int (fun _ _ => rfl)))) pa_nil)))) pss_nil) (pss_one (ps_ret (pe_tup (pa_cons (pv 4) (pa_cons (pv 5) pa_nil)))))))), ?_⟩
    have hn := hR.len
    have hxl := hE.len
    have hk : ∀ xs, st ≠ .seen xs := fun xs z => by have := hR.st; rw [z] at this; exact this
    refine q_asg (ev_count (ev_var rfl) hs hk (et_test (ev_op (ev_var rfl) ev_c rv_isN))) fun H1 e1 => ?_
    refine q_asgW (ew_first (K := K) rfl (ev_var rfl) (ev_var rfl) (ev_var rfl) (ex_l e1 hl) (hE.ex e1) hn) fun u H2 e2 hu => ?_
    refine q_if (b := decide (st.count 0 % 4 = 1)) (et_test (ev_op (ev_op (ev_var rfl) ev_c (rv_I (by decide))) ev_c (rv_eq2 rfl (by simp)))) (fun h H3 e3 => ?_) fun h H3 e3 => ?_
    · refine s_asgW (ew_tupleOf (el_namesNe (page := page) (ev_var rfl) (ex_l ((e1.trans e2).trans e3) hl) (hE.ex ((e1.trans e2).trans e3)) (by omega) (fun _ => rfl) (fun _ => rfl) fun _ => rfl)) fun u2 H4 e4 hu2 => ?_
      refine ret_pair (ev_var rfl) (ew_var rfl hu2) fun t u H5 e5 ht hu => k _ _ ((((e1.trans e2).trans e3).trans e4).trans e5) ⟨t, u, _, rfl, ht, rfl, ?_⟩
      rw [if_pos (of_decide_eq_true h)]
      exact hu
    · refine ret_pair (ev_var rfl) (ew_var rfl (e3 _ _ hu)) fun t u H5 e5 ht hu => k _ _ (((e1.trans e2).trans e3).trans e5) ⟨t, u, _, rfl, ht, rfl, ?_⟩
      rw [if_neg (of_decide_eq_false h)]
      exact hu
end
section
variable {P : Program} {w : World} {K : PySem.W.Frag} {mg : Str → Option Value} {base : Heap}
abbrev n_l_shy : List Str := ["_law_state", "_law_entries", "_law_page", "_law_need", "_law_seen", "_law_names", "_law_entry"]
theorem sc_l_shy : FnScope n_l_shy ["_law_state", "_law_entries", "_law_page", "_law_need"] (defScope s_l_shy) := C8.fnScope_by (by decide +kernel)
abbrev sp_l_shy (K : PySem.W.Frag) : Sp := sp_rule K 4
theorem ok_l_shy  (T : Ctx K mg) : C8.Cal P w K mg base 2 "_law_shy" (sp_l_shy K) [] := by
  refine cal_of T.f_l_shy (T.glo _ (by decide)) (N := n_l_shy) sc_l_shy (fun _ _ _ _ _ _ us hl => match us, hl with | [_, _, _, _], _ => rfl) (fun vs H Q E h => ?len) (fun cdv A outer s H vs Q E hr h => ?body)
  case len =>
    obtain ⟨_, _, _, _, _, _, _, rfl, _⟩ := h
    rfl
  case body =>
    obtain ⟨sv, l, xs, es, page, need, st, rfl, hs, hl, hE, hR, k⟩ := h
    refine ⟨_, (pss_cons (ps_set (i := 4) sc_l_shy.nd rfl (Or.inl rfl) (pe_ifExp (pt_cmpR op_isN (pv 0) pe_non (by rfl)) (pe_tup pa_nil) (pv 0))) (pss_cons (ps_setLc (i := 5) (own := [("_law_entry", 6)]) (by rfl) sc_l_shy.nd rfl rfl (sw_true rfl rfl rfl (by decide +kernel)) (pi_listK (K := K) (pv 1)) (blkOk_by (own := [("_law_entry", 6)]) (N := n_l_shy) (sc := defScope s_l_shy) (by decide +kernel)) (fun _ _ _ _ _ => pg_name (i := 6) sc_l_shy.nd rfl (Or.inl rfl)) (fun _ _ _ _ _ => by exact pts_nil) (fun _ _ _ _ _ => by exact (pe_ix (ix_tupK (K := K)) (pv 6) pe_int (fun _ _ => rfl)))) (pss_cons (ps_if (PW.pt (pw_and (pt_cmpR op_notN (pv 2) pe_non (by rfl)) (pw_and (pt_cmpR op_gt (pv 3) pe_int (by rfl)) (pw_and (pt_cmpR (op_notIn_seqK (K := K)) (pv 2) (pv 5) (by rfl)) (pw_and1 (pt_cmpR (op_notIn_seqK (K := K)) (pv 2) (pv 4) (by rfl))))))) (pss_one (ps_ret (pe_tup (pa_cons (pe_slice (sl_tupAK (K := K)) (pe_op (op_catAK (K := K)) (pv 4) (pe_tup (pa_cons (pv 2) pa_nil))) (po_some (pe_un un_neg pe_int)) po_none) (pa_cons pe_non pa_nil))))) pss_nil) (pss_one (ps_ret (pe_tup (pa_cons (pv 4) (pa_cons (pe_ix (ix_tupK (K := K)) (C8.pe_c (ok_l_first T) hr (by decide) (by rfl) (pa_cons pe_non (pa_cons (pe_revLK (K := K) (pv 1)) (pa_cons (pv 2) (pa_cons (pv 3) pa_nil))))) pe_int (fun _ _ => rfl)) pa_nil)))))))), ?_⟩
    have hn := hR.len
    have hxl := hE.len
    refine q_asgW (xs := st.seenL.map V.str) ?_ fun u H1 e1 hu => ?_
    · refine ew_if (et_test (ev_op (ev_var rfl) ev_c rv_isN)) (fun h => ?_) fun h => ?_
      · cases st with
        | none => exact ew_new (eu_tup ea_nil (Nat.zero_le _))
        | num n => exact (show False from hR.st).elim
        | seen xs => obtain ⟨t, rfl, ht⟩ := hs; exact nomatch h
      · cases st with
        | none => cases hs; exact nomatch h
        | num n => exact (show False from hR.st).elim
        | seen xs => obtain ⟨t, rfl, ht⟩ := hs; exact ew_var rfl ht
    have hsl : st.seenL.length ≤ 2 := by
      cases st with
      | none => exact Nat.zero_le _
      | num n => exact Nat.zero_le _
      | seen xs => exact hR.st
    refine q_asgL (el_names (ev_var rfl) (ex_l e1 hl) (hE.ex e1) (by omega) (fun _ => rfl) (fun _ => rfl)) fun p H2 hp e2 h2 => ?_
    have flat : ∀ xs : List Str, (xs.map V.str).all flatV = true := fun xs => by rw [List.all_map]; exact List.all_eq_true.mpr fun _ _ => rfl
    have inS : ∀ (x : Str) (xs : List Str), inV (.str x) (xs.map V.str) = decide (x ∈ xs) := fun x xs => by
      unfold inV
      rw [List.any_map, Bool.eq_iff_iff]
      have h : ∀ a b : Str, eqV (.str a) (.str b) = (a == b) := fun _ _ => rfl
      simp [h]
    refine q_when (b := decide (0 < need ∧ page ∉ namesO es ∧ page ∉ st.seenL)) (et_is (et_and (et_test (ev_op (ev_var rfl) ev_c rv_notN)) fun _ => et_and (et_test (ev_op (ev_var rfl) ev_c rv_I0)) fun _ => et_and (et_test (ev_op (ev_var rfl) (ev_var rfl) (rv_niL (sq_of h2) rfl (flat _)))) fun _ => et_test (ev_op (ev_var rfl) (ev_var rfl) (rv_niT (st_of (e2 _ _ hu)) rfl (flat _)))) ?_) (fun h H3 e3 => ?_) fun h H3 e3 => ?_
    · rw [inS, inS]
      simp
    · refine ret_pairN (ew_sl (ew_cat (ew_var rfl (e3 _ _ (e2 _ _ hu))) (ew_new (eu_tup (ea_cons (ev_var rfl) ea_nil) (by show 1 ≤ 100000; decide))) (by rw [List.length_map]; show _ + 1 ≤ _; omega)) (eo_some (ev_un ev_c ru_neg)) eo_none) fun t u2 H4 e4 ht hu2 => k _ _ (((e1.trans e2).trans e3).trans e4) ?_
      show AnsV H4 _ (if 0 < need ∧ page ∉ namesO es ∧ page ∉ st.seenL then _ else _)
      rw [if_pos (of_decide_eq_true h)]
      refine ⟨t, _, rfl, ht, u2, rfl, ?_⟩
      rw [hu2]
      have e5 : st.seenL.map V.str ++ [V.str page] = (st.seenL ++ [page]).map V.str := by rw [map_snoc]
      show some (HO.tup (cutV _ (some (-2)) none)) = _
      rw [cut_last2, e5, List.map_drop, List.length_map]
    · refine ret_pair (ev_var rfl) (ew_firstL (K := K) rfl (el_rev (ev_var rfl) (ex_l ((e1.trans e2).trans e3) hl)) (ev_var rfl) (ev_var rfl) (hE.ex ((e1.trans e2).trans e3)).reverse (by rw [List.length_reverse]; exact hn)) fun t u2 H4 e4 ht hu2 => k _ _ (((e1.trans e2).trans e3).trans e4) ?_
      show AnsV H4 _ (if 0 < need ∧ page ∉ namesO es ∧ page ∉ st.seenL then _ else _)
      rw [if_neg (of_decide_eq_false h)]
      exact ⟨t, u2, _, rfl, ht, ⟨u, rfl, e4 _ _ (e3 _ _ (e2 _ _ hu))⟩, hu2⟩
end
section
variable {P : Program} {w : World} {K : PySem.W.Frag} {mg : Str → Option Value} {base : Heap}
abbrev n_l_wild : List Str := ["_law_state", "_law_entries", "_law_page", "_law_need", "_law_number", "_law_names", "_law_good", "_law_odd", "_law_entry"]
theorem sc_l_wild : FnScope n_l_wild ["_law_state", "_law_entries", "_law_page", "_law_need"] (defScope s_l_wild) := C8.fnScope_by (by decide +kernel)
abbrev sp_l_wild (K : PySem.W.Frag) : Sp := sp_rule K 5
theorem ok_l_wild  (T : Ctx K mg) : C8.Cal P w K mg base 2 "_law_wild" (sp_l_wild K) [] := by
  refine cal_of T.f_l_wild (T.glo _ (by decide)) (N := n_l_wild) sc_l_wild (fun _ _ _ _ _ _ us hl => match us, hl with | [_, _, _, _], _ => rfl) (fun vs H Q E h => ?len) (fun cdv A outer s H vs Q E hr h => ?body)
  case len =>
    obtain ⟨_, _, _, _, _, _, _, rfl, _⟩ := h
    rfl
  case body =>
    obtain ⟨sv, l, xs, es, page, need, st, rfl, hs, hl, hE, hR, k⟩ := h
    refine ⟨_, (pss_cons (ps_set (i := 4) sc_l_wild.nd rfl (Or.inl rfl) (pe_ifExp (pt_cmpR op_isN (pv 0) pe_non (by rfl)) pe_int (pe_op op_add (pv 0) pe_int))) (pss_cons (ps_par (i := 5) (j := 6) (by rfl) sc_l_wild.nd rfl rfl (by decide) rfl rfl (pa_cons (pe_lc (own := [("_law_entry", 8)]) (by rfl) sc_l_wild.nd (pi_listK (K := K) (pv 1)) (blkOk_by (own := [("_law_entry", 8)]) (N := n_l_wild) (sc := defScope s_l_wild) (by decide +kernel)) (fun _ _ _ _ _ => pg_name (i := 8) sc_l_wild.nd rfl (Or.inl rfl)) (fun _ _ _ _ _ => by exact pts_nil) (fun _ _ _ _ _ => by exact (pe_ix (ix_tupK (K := K)) (pv 8) pe_int (fun _ _ => rfl)))) (pa_cons (pe_ix (ix_tupK (K := K)) (C8.pe_c (ok_l_first T) hr (by decide) (by rfl) (pa_cons pe_non (pa_cons (pv 1) (pa_cons (pv 2) (pa_cons (pv 3) pa_nil))))) pe_int (fun _ _ => rfl)) pa_nil)) (by rfl)) (pss_cons (ps_set (i := 7) sc_l_wild.nd rfl (Or.inl rfl) (pe_lst (pa_cons (pe_tup (pa_cons (pv 4) (pa_cons (pv 6) pa_nil))) (pa_cons (pe_tup (pa_cons (pv 4) (pa_cons pe_non pa_nil))) (pa_cons pe_non (pa_cons (pe_tup (pa_cons (pv 4) (pa_cons (pe_callTy (call_list_ofK (K := K)) (by rfl) (T.free _ (by decide)) (by decide +kernel) (pa_cons (pv 6) pa_nil)) pa_nil))) (pa_cons (pe_tup (pa_cons (pv 4) (pa_cons (pe_op op_rep (pe_slice (sl_listK (K := K)) (pv 5) po_none (po_some pe_int)) pe_int) pa_nil))) pa_nil))))))) (pss_cons (ps_expr (pe_bmK (K := K) PySem.F.plainAttrs_list PySem.F.slot_list_append PySem.F.type_list_append mt_append (pv 7) (pa_cons (pe_tup (pa_cons (pv 4) (pa_cons (pe_op (op_catAK (K := K)) (pe_tup (pa_cons pe_str pa_nil)) (pv 6)) pa_nil))) pa_nil))) (pss_cons (ps_set (i := 7) sc_l_wild.nd rfl (Or.inl rfl) (pe_op op_cat (pv 7) (pe_lst (pa_cons (pe_tup (pa_cons (pv 4) (pa_cons (pe_callTy (call_tuple_ofK (K := K)) (by rfl) (T.free _ (by decide)) (by decide +kernel) (pa_cons (pv 5) pa_nil)) pa_nil))) (pa_cons (pe_lst (pa_cons (pv 4) (pa_cons (pv 6) pa_nil))) (pa_cons (pe_tup (pa_cons (pv 4) (pa_cons (pe_slice (sl_tupAK (K := K)) (pv 6) (po_some pe_int) po_none) pa_nil))) (pa_cons (pe_tup (pa_cons (pv 4) (pa_cons (pe_tup (pa_cons (pv 2) pa_nil)) pa_nil))) (pa_cons (pe_tup (pa_cons (pv 4) (pa_cons (pe_tup (pa_cons pe_int pa_nil)) pa_nil))) (pa_cons pe_int pa_nil))))))))) (pss_cons (ps_set (i := 7) sc_l_wild.nd rfl (Or.inl rfl) (pe_op op_cat (pv 7) (pe_lst (pa_cons (pe_tup (pa_cons (pv 4) (pa_cons (pe_op (op_catAK (K := K)) (pe_callTy (call_tuple_ofK (K := K)) (by rfl) (T.free _ (by decide)) (by decide +kernel) (pa_cons (pe_op op_rep (pe_slice (sl_listK (K := K)) (pv 5) po_none (po_some pe_int)) pe_int) pa_nil)) (pv 6)) pa_nil))) (pa_cons (pe_tup (pa_cons (pv 4) (pa_cons (pv 6) (pa_cons pe_int pa_nil)))) (pa_cons (pe_tup (pa_cons (pv 4) (pa_cons (pv 6) pa_nil))) (pa_cons (pe_tup (pa_cons (pv 4) (pa_cons (pe_tup (pa_cons (pe_lst pa_nil) pa_nil)) pa_nil))) pa_nil))))))) (pss_one (ps_ret (pe_ix (ix_listK (K := K)) (pv 7) (pe_op op_mod (pe_op op_add (pe_op op_mul (pv 4) (pv 4)) (pe_callB (cr_sumK (K := K) rfl) (by rfl) (T.free _ (by decide)) (by decide +kernel) (pa_cons (pe_lc (own := [("_law_entry", 8)]) (by rfl) sc_l_wild.nd (pi_listK (K := K) (pv 1)) (blkOk_by (own := [("_law_entry", 8)]) (N := n_l_wild) (sc := defScope s_l_wild) (by decide +kernel)) (fun _ _ _ _ _ => pg_name (i := 8) sc_l_wild.nd rfl (Or.inl rfl)) (fun _ _ _ _ _ => by exact pts_nil) (fun _ _ _ _ _ => by exact (pe_ix (ix_tupK (K := K)) (pv 8) pe_int (fun _ _ => rfl)))) pa_nil))) pe_int) (fun _ _ => rfl)))))))))), ?_⟩
    have hn := hR.len
    have hxl := hE.len
    have hk : ∀ xs, st ≠ .seen xs := fun xs z => by have := hR.st; rw [z] at this; exact this
    refine q_asg (ev_count (ev_var rfl) hs hk (et_test (ev_op (ev_var rfl) ev_c rv_isN))) fun H1 e1 => ?_
    have hbd : 0 ≤ st.count 0 ∧ st.count 0 ≤ 300 := by
      cases st with
      | none => exact ⟨by decide, by decide⟩
      | num n => have h : 0 ≤ n ∧ n ≤ 200 + 1 := hR.st; show 0 ≤ n + 1 ∧ n + 1 ≤ 300; omega
      | seen xs => exact (hk xs rfl).elim
    refine q_parLW (el_names (ev_var rfl) (ex_l e1 hl) (hE.ex e1) (by omega) (fun _ => rfl) (fun _ => rfl)) (ew_first (K := K) rfl (ev_var rfl) (ev_var rfl) (ev_var rfl) (ex_l e1 hl) (hE.ex e1) hn) fun p u H2 e2 hp hu => ?_
    have e02 := e1.trans e2
    generalize hg : takenL es page need = good at hu
    have hgl : good.length ≤ 60 := by
      rw [← hg]
      exact Nat.le_trans (takenA_len es page need) hn
    generalize hnn : st.count 0 = n at hbd
    have hnl : (namesO es).length ≤ 60 := by unfold namesO; rw [List.length_map]; exact hn
    have hW : ∀ i v (H H' : Hp), AnsV H v (wildA n es page good i) → Ex H H' → AnsV H' v (wildA n es page good i) := fun i v H H' h e => h.ex e
    have one2 : ∀ ys : List V, (List.replicate (2 : Int).toNat ys).flatten = ys ++ ys := fun ys => by
      show (List.replicate 2 ys).flatten = _
      simp [List.replicate_succ]
    refine q_asgLs (P := fun i v H => AnsV H v (wildA n es page good i)) (eqs_cons hW (eq_pairW (ev_var rfl) (ew_var rfl hu) fun t u H' _ ht hu => ⟨t, u, _, rfl, ht, rfl, hu⟩)
      (eqs_cons (fun i => hW (i + 1)) (fun H3 e3 Q3 q3 => ⟨_, rfl, sz_of (by show 2 ≤ 100000; decide), fun t ht => q3 _ _ (Ex.new ht) ⟨t, _, rfl, upd_same, rfl⟩⟩)
      (eqs_cons (fun i => hW (i + 2)) (eq_ev ev_c fun _ _ => BadV.non)
      (eqs_cons (fun i => hW (i + 3)) (eq_pairL (ev_var rfl) (el_listW (ew_var rfl hu)) fun t u H' _ ht hu => BadV.tupL ht hu)
      (eqs_cons (fun i => hW (i + 4)) (eq_pairL (ev_var rfl) (el_rep (el_sl (ev_var rfl) eo_none (eo_some ev_c) (sq_of hp)) ev_c (by decide) (Nat.le_trans (cutV_length _ _ _) (by rw [List.length_map]; omega))) fun t u H' _ ht hu => BadV.tupL ht hu) eqs_nil))))) (by decide) fun od vs H3 e3 hod hvl hvs => ?_
    refine q_appQ (P := fun v H => ∃ t u, v = .ref t ∧ H t = some (.tup [.int n, .ref u]) ∧ H u = some (.tup ((("zz" : Str) :: good).map V.str))) upd_same (ev_var rfl)
      (eq_pairW (ev_var rfl) (ew_cat (ew_new (eu_tup (ea_cons ev_c ea_nil) (by show 1 ≤ 100000; decide))) (ew_var rfl (Ex.new hod _ _ (e3 _ _ hu))) (by rw [List.length_map]; show 1 + _ ≤ _; omega)) fun t u H' _ ht hu => ⟨t, u, rfl, ht, hu⟩) (by omega) fun v5 H4 e4 h5 => ?_
    have e34 : Ex H3 (upd H4 od (.lst (vs ++ [v5]))) := Ex.mut ((Ex.new hod).trans e4) hod
    have hod4 : H4 od = some (.lst vs) := e4 _ _ upd_same
    have h6 : ∀ i v, (vs ++ [v5])[i]? = some v → AnsV (upd H4 od (.lst (vs ++ [v5]))) v (wildA n es page good i) := fun i v hi => by
      by_cases hlt : i < vs.length
      · rw [List.getElem?_append_left hlt] at hi
        exact (hvs i v hi).ex e34
      · rw [List.getElem?_append_right (by omega)] at hi
        have hz : i - vs.length = 0 := by
          have := (List.getElem?_eq_some_iff.mp hi).1
          simp at this
          omega
        rw [hz] at hi
        cases hi
        rw [show i = 5 by omega]
        obtain ⟨t, u, rfl, ht, hu⟩ := h5
        exact ⟨t, u, _, rfl, by rw [upd_ne (ne_of ht hod4 (by intro z; cases z))]; exact ht, rfl, by rw [upd_ne (ne_of hu hod4 (by intro z; cases z))]; exact hu⟩
    generalize hH5 : upd H4 od (.lst (vs ++ [v5])) = H5 at e34 h6
    have hod5 : H5 od = some (.lst (vs ++ [v5])) := by rw [← hH5]; exact upd_same
    have hu5 := e34 _ _ (e3 _ _ hu)
    have hp5 := e34 _ _ (e3 _ _ hp)
    have e05 := (e02.trans e3).trans e34
    have hA : ∀ (i : Nat) (v : V) (H H' : Hp) (a : Nat → Ans), AnsV H v (a i) → Ex H H' → AnsV H' v (a i) := fun i v H H' a h e => AnsV.ex h e
    refine q_asgCat (m := 6) (n := 6) hW rfl hod5 (by rw [List.length_append, hvl]; rfl) h6
      (eqs_cons (fun i v H H' h e => AnsV.ex h e) (eq_pairW (ev_var rfl) (ew_tupleV (ev_var rfl) hp5) fun t u H' _ ht hu => ⟨t, u, _, rfl, ht, rfl, hu⟩)
      (eqs_cons (fun i v H H' h e => AnsV.ex h e) (eq_lst2 (ev_var rfl) (ev_var rfl) fun l H' _ hl => BadV.lst hl)
      (eqs_cons (fun i v H H' h e => AnsV.ex h e) (eq_pairW (ev_var rfl) (ew_sl (ew_var rfl hu5) (eo_some ev_c) eo_none) fun t u H' _ ht hu => ⟨t, u, _, rfl, ht, rfl, by rw [hu, cut_from (by decide), List.map_drop]; rfl⟩)
      (eqs_cons (fun i v H H' h e => AnsV.ex h e) (eq_pairW (ev_var rfl) (ew_new (eu_tup (ea_cons (ev_var rfl) ea_nil) (by show 1 ≤ 100000; decide))) fun t u H' _ ht hu => ⟨t, u, _, rfl, ht, rfl, hu⟩)
      (eqs_cons (fun i v H H' h e => AnsV.ex h e) (eq_pairW (ev_var rfl) (ew_new (eu_tup (ea_cons ev_c ea_nil) (by show 1 ≤ 100000; decide))) fun t u H' _ ht hu => BadV.tupI ht hu)
      (eqs_cons (fun i v H H' h e => AnsV.ex h e) (eq_ev ev_c fun _ _ => BadV.int 7) eqs_nil)))))) (by decide) fun r ys H6 e6 hr hyl hys => ?_
    refine q_asgCat (m := 12) (n := 4) hW rfl hr hyl hys
      (eqs_cons (fun i v H H' h e => AnsV.ex h e) (eq_pairW (ev_var rfl) (ew_cat (ew_tupleOf (el_rep (el_sl (ev_var rfl) eo_none (eo_some ev_c) (sq_of (e6 _ _ hp5))) ev_c (by decide) (Nat.le_trans (cutV_length _ _ _) (by rw [List.length_map]; omega)))) (ew_var rfl (e6 _ _ hu5)) ?_) fun t u H' _ ht hu => ⟨t, u, _, rfl, ht, rfl, by rw [hu, cut_to (by decide), one2, List.map_append, List.map_append, List.map_take]; rfl⟩)
      (eqs_cons (fun i v H H' h e => AnsV.ex h e) (eq_tup3 (ev_var rfl) (ev_var rfl) ev_c fun t H' _ ht => BadV.tup3 ht)
      (eqs_cons (fun i v H H' h e => AnsV.ex h e) (eq_pairW (ev_var rfl) (ew_var rfl (e6 _ _ hu5)) fun t u H' _ ht hu => ⟨t, u, _, rfl, ht, rfl, hu⟩)
      (eqs_cons (fun i v H H' h e => AnsV.ex h e) (eq_pairE (ev_var rfl) fun t u l H' _ ht hu hl => BadV.tupT ht hu hl) eqs_nil)))) (by decide) fun r2 ys2 H7 e7 hr2 hyl2 hys2 => ?_
    · rw [one2, List.length_append]
      have := cutV_length ((namesO es).map V.str) none (some 1)
      rw [List.length_map] at this ⊢
      omega
    have e07 := (e05.trans e6).trans e7
    have hsum : ∃ i : Nat, i < 16 ∧ (n * n + (es.map (·.last)).sum) % 16 = (i : Int) ∧ ((n * n + (es.map (·.last)).sum) % 16).toNat = i := by
      have h1 := Int.emod_nonneg (n * n + (es.map (·.last)).sum) (show (16 : Int) ≠ 0 by decide)
      have h2 := Int.emod_lt_of_pos (n * n + (es.map (·.last)).sum) (show (0 : Int) < 16 by decide)
      exact ⟨_, by omega, by omega, rfl⟩
    obtain ⟨i, hi, hs1, hs2⟩ := hsum
    obtain ⟨y, hy⟩ : ∃ y, ys2[i]? = some y := ⟨_, List.getElem?_eq_getElem (by omega)⟩
    refine s_ret (v := y) (ev_op (ev_var rfl) (ev_op (ev_op (ev_op (ev_var rfl) (ev_var rfl) (rv_I (Or.inl ⟨by omega, by omega⟩))) (ev_sum (ns := es.map (·.last)) ?_) rv_I0) ev_c (rv_I (by decide))) (rv_ixL (sq_of hr2) ?_)) fun H8 e8 => k y H8 (e07.trans e8) ?_
    · have e : (es.map (·.last)).map V.int = given xs.length (fun _ => true) (fun i => V.int (es.getD i entD).last) := by
        rw [given_all, hE.len, range_map_get es entD (fun e => V.int e.last), List.map_map]
        rfl
      rw [e]
      refine el_lcW _ _ (wi_list (ev_var rfl) (ex_l e07 hl)) walk_list (by omega) (fun H8 e8 => ex_l (e07.trans e8) hl) fun i H8 x H9 hi e8 y R hR => ?_
      obtain ⟨rfl, hxi⟩ := y
      obtain ⟨e, he, hv⟩ := (hE.ex (e07.trans e8)).get hxi
      refine hR _ _ (Ex.refl _) rfl et_yes fun _ => ev_is (ev_ent (ev_var rfl) hv (y := .int e.last) rfl) ?_
      rw [List.getD, he]
      rfl
    · exact at_of hs1 hy
    · have h := (hys2 i y hy).ex e8
      show AnsV H8 y (wildF (st.count 0) es page (takenL es page need))
      rw [hnn, hg]
      unfold wildF
      rw [hs2]
      exact h
end
end N32
set_option Elab.async false
set_option linter.all false
set_option maxRecDepth 100000
set_option maxHeartbeats 4000000

namespace N32
open PySem PySem.Spec PyProof.Rows L2 Evl
/-! ### a dict comprehension -/
def dcK (f : Nat → Bool) (k : Nat → Key) (v : Nat → V) : Nat → List (Key × V)
  | 0 => []
  | n + 1 => if f n = true then putK (dcK f k v n) (k n) (v n) else dcK f k v n
theorem dcK_len (f : Nat → Bool) (k : Nat → Key) (v : Nat → V) : ∀ n, (dcK f k v n).length ≤ n
  | 0 => Nat.le_refl _
  | n + 1 => by
    have ih := dcK_len f k v n
    unfold dcK
    split
    · have := length_putK (dcK f k v n) (k n) (v n); omega
    · omega
def EvD (te : TE) (σ : L2.St) (H : Hp) (kvs : List (Key × V)) : Prop := ∀ H1, Ex H H1 → ∀ Q : VK, (∀ p H2, H1 p = none → Ex H1 H2 → H2 p = some (.dK kvs) → Q (.ref p) H2) → te σ H1 Q
section
variable {K : PySem.W.Frag} {σ : L2.St} {H : Hp} {ta tb te tk tv tx : TE} {x y v : V} {D : Ends} {tz : TS}
theorem ed_dcW {J : It} {n : Nat} {G : Hp → Prop} {Y : Nat → Hp → V → Hp → Prop} {wi : TI} {g : TG} {tt : TT} {vs : List Nat} (f : Nat → Bool) (k : Nat → Key) (vl : Nat → V)
    (hw : ∀ H1, Ex H H1 → ∀ R : It → Hp → Prop, (∀ H2, Ex H1 H2 → R J H2) → wi σ H1 R) (w : Walk J n G Y) (hn : n ≤ 40000) (hG : ∀ H1, Ex H H1 → G H1)
    (hs : ∀ i H1 x H2, i < n → Ex H H1 → Y i H1 x H2 → ∀ R : L2.St → Hp → Prop, (∀ σ2 H3, Ex H1 H3 → wipe σ2 vs = wipe σ vs → EvT tt σ2 H3 (f i) → (f i = true → Ev tk σ2 H3 (kV (k i))) → (f i = true → Ev tv σ2 H3 (vl i)) → R σ2 H3) → g x (wipe σ vs) H2 R) :
    EvD (tDc wi g tt tk tv vs) σ H (dcK f k vl n) := fun H0 e0 Q q => hw H0 e0 _ fun H1 e1 D hD => by
  refine ⟨fun i m H2 => m = n - i ∧ i ≤ n ∧ Ex H1 H2 ∧ H2 D = some (.dK (dcK f k vl i)), ⟨n, by omega, Nat.zero_le _, Ex.new hD, upd_same⟩, ?_⟩
  rintro i m H2 ⟨rfl, hi, p1, p2⟩
  have hg := hG H2 ((e0.trans e1).trans p1)
  by_cases hlt : i < n
  · refine .inr ⟨w.goes i H2 hlt hg, fun H3 => Ex H1 H3 ∧ H3 D = some (.dK (dcK f k vl (i + 1))), fun H3 p => ⟨n - (i + 1), by omega, rfl, hlt, p⟩, fun x H3 y => ?_⟩
    refine hs i H2 x H3 hlt ((e0.trans e1).trans p1) (w.yields i H2 x H3 hlt hg y) _ fun σ2 H4 e4 hwp ht hk hv => ⟨hwp, ht H4 (Ex.refl _) _ fun H5 e5 => ?_⟩
    have e25 := e4.trans e5
    cases hf : f i with
    | true =>
      show tk σ2 H5 _
      refine hk hf H5 e5 _ fun H6 e6 => hv hf H6 (e5.trans e6) _ fun H7 e7 => ?_
      have e27 := (e25.trans e6).trans e7
      have hl := dcK_len f k vl i
      refine ⟨_, k i, rfl, e27 _ _ p2, sz_lt (by omega), Ex.mut (p1.trans e27) hD, ?_⟩
      rw [upd_same]
      show some (HO.dK _) = some (HO.dK (if f i = true then _ else _))
      rw [if_pos hf]
    | false =>
      refine ⟨p1.trans e25, ?_⟩
      show H5 D = some (HO.dK (if f i = true then _ else _))
      rw [if_neg (by rw [hf]; decide)]
      exact e25 _ _ p2
  · have e : i = n := by omega
    subst e
    exact .inl ⟨w.stops H2 hg, q D H2 (fresh_back e1 hD) (e1.trans p1) p2⟩
theorem q_asgDc {i : Nat} {kvs : List (Key × V)} (h : EvD te σ H kvs) (k : ∀ p H1, H p = none → Ex H H1 → H1 p = some (.dK kvs) → tz D (σ.set i (some (.ref p))) H1) : tSeq (tAsg te (gName i)) tz D σ H := h H (Ex.refl H) _ k
theorem ev_lenT {p : Addr} {xs : List V} (ha : Ev ta σ H (.ref p)) (h : SqT K H p xs) : Ev (tCB (rLenS K) (tCons ta tNil)) σ H (.int (xs.length : Int)) := fun H1 e Q q =>
  ha H1 e _ fun H2 e2 => ⟨p, xs, rfl, .inr (ex_t (e.trans e2) h), q H2 e2⟩
end

/-! ### answers -/
def goodA (z : Szs) (es : List Ent) (page : Str) (need : Int) (may : Bool) : Ans → Bool
  | .ok _ out => isAns z es page need out
  | .no _ => may
  | .bad => false
/-- a name that may go -/
def okN (es : List Ent) (page : Str) (n : Str) : Bool := decide (n ∈ namesO es ∧ n ≠ page)
def okV (es : List Ent) (page : Str) : V → Bool
  | .str n => okN es page n
  | _ => false
/-- what a part of an answer may be -/
def PartV (H : Hp) (y : V) : Prop := (∃ n, y = .str n) ∨ (∃ i, y = .int i) ∨ ∃ l ys, y = .ref l ∧ H l = some (.lst ys)
inductive AnsKind (z : Szs) (es : List Ent) (page : Str) (need : Int) (may : Bool) (a : Ans) (H : Hp) (v : V) : Prop where
  | bad (g : goodA z es page need may a = false) (h : ∀ (K : PySem.W.Frag) (σ : L2.St) (ta : TE), Ev ta σ H v → EvT (tOr (tNot (tB (tCB (rIsiF K) (tCons ta (tCons (tC (.ty "tuple")) tNil))))) (tTest (tOp rNe (tCB (rLenS K) (tCons ta tNil)) (tC (.int 2))))) σ H true)
  | non {t : Addr} {sv : V} (e : v = .ref t) (ht : H t = some (.tup [sv, .non])) (g : goodA z es page need may a = may)
  | lst {t l : Addr} {sv : V} {ys : List V} (e : v = .ref t) (ht : H t = some (.tup [sv, .ref l])) (hl : H l = some (.lst ys)) (g : goodA z es page need may a = false)
  | part {t u : Addr} {sv y : V} (e : v = .ref t) (ht : H t = some (.tup [sv, .ref u])) (hu : H u = some (.tup [y])) (hp : PartV H y) (hy : ∀ n, y ≠ .str n) (g : goodA z es page need may a = false)
  | out {t u : Addr} {sv : V} {out : List Str} (e : v = .ref t) (ht : H t = some (.tup [sv, .ref u])) (hu : H u = some (.tup (out.map V.str))) (ho : out.length ≤ 62) (g : goodA z es page need may a = isAns z es page need out)
theorem test_bad1 {H : Hp} {v : V} {T : String} (ty : ∀ K H1, Ex H H1 → TyF K H1 v (.type T)) (h : kitB T "tuple" = some false) (K : PySem.W.Frag) (σ : L2.St) (ta : TE) (ha : Ev ta σ H v) :
    EvT (tOr (tNot (tB (tCB (rIsiF K) (tCons ta (tCons (tC (.ty "tuple")) tNil))))) (tTest (tOp rNe (tCB (rLenS K) (tCons ta tNil)) (tC (.int 2))))) σ H true :=
  et_or (a := true) (b := false) (et_not (a := false) (et_B (ev_isi ha (.ty "tuple") (ty K) (kit_ty h)))) fun h => nomatch h
theorem ansKind {z : Szs} {es : List Ent} {page : Str} {need : Int} {may : Bool} {a : Ans} {H : Hp} {v : V} (h : AnsV H v a) (ho : ∀ st out, a = .ok st out → out.length ≤ 62) : AnsKind z es page need may a H v := by
  cases a with
  | ok st out =>
    obtain ⟨t, u, sv, rfl, h1, _, h2⟩ := h
    exact .out rfl h1 h2 (ho _ _ rfl) rfl
  | no st =>
    obtain ⟨t, sv, rfl, h1, _⟩ := h
    exact .non rfl h1 rfl
  | bad =>
    have hb : BadV H v := h
    clear h
    cases hb with
    | non => exact .bad rfl (test_bad1 (T := "NoneType") (fun K H1 _ => .x (.base .non)) (by decide +kernel))
    | int i => exact .bad rfl (test_bad1 (T := "int") (fun K H1 _ => ty_int) (by decide +kernel))
    | lst h => exact .bad rfl (test_bad1 (T := "list") (fun K H1 e => ty_lst (e _ _ h)) (by decide +kernel))
    | @tup3 t x y w h =>
      refine .bad rfl fun K σ ta ha => et_or (a := false) (b := true) (et_not (a := true) (et_B (ev_isi ha (.ty "tuple") (fun H1 e => ty_tup (e _ _ h)) (kit_ty (by decide +kernel))))) fun _ => et_test (ev_op (ev_is (ev_lenT ha (st_of h)) (show V.int _ = V.int 3 from rfl)) ev_c (rv_ne2 (b := true) rfl (by decide)))
    | tupL h h2 => exact .lst rfl h h2 rfl
    | tupI h h2 => exact .part rfl h h2 (.inr (.inl ⟨_, rfl⟩)) (fun n z => nomatch z) rfl
    | tupT h h2 h3 => exact .part rfl h h2 (.inr (.inr ⟨_, _, rfl, h3⟩)) (fun n z => nomatch z) rfl
theorem et_two {K : PySem.W.Frag} {σ : L2.St} {H : Hp} {ta : TE} {t : Addr} {x y : V} (ha : Ev ta σ H (.ref t)) (ht : H t = some (.tup [x, y])) :
    EvT (tOr (tNot (tB (tCB (rIsiF K) (tCons ta (tCons (tC (.ty "tuple")) tNil))))) (tTest (tOp rNe (tCB (rLenS K) (tCons ta tNil)) (tC (.int 2))))) σ H false :=
  et_or (a := false) (b := false) (et_not (a := true) (et_B (ev_isi ha (.ty "tuple") (fun H1 e => ty_tup (e _ _ ht)) (kit_ty (by decide +kernel))))) fun _ => et_test (ev_op (ev_is (ev_lenT ha (st_of ht)) (show V.int _ = V.int 2 from rfl)) ev_c (rv_ne2 (b := false) rfl (by decide)))
/-- the sizes of the pages that may go -/
def sizesK (es : List Ent) (page : Str) : List (Key × V) := dcK (fun i => !decide ((es.getD i entD).pg = page)) (fun i => .inr (es.getD i entD).pg) (fun i => .int (es.getD i entD).sz) es.length
theorem sizesK_val {z : Szs} {es : List Ent} {page : Str} (hz : ∀ e ∈ es, e.sz = szOf z e.pg) (p : Str) : valV (sizesK es page) (.inr p) = if okN es page p = true then some (.int (szOf z p)) else none := by
  have key : ∀ n, n ≤ es.length → valV (dcK (fun i => !decide ((es.getD i entD).pg = page)) (fun i => (.inr (es.getD i entD).pg : Key)) (fun i => .int (es.getD i entD).sz) n) (.inr p) = if okN (es.take n) page p = true then some (.int (szOf z p)) else none := by
    intro n
    induction n with
    | zero =>
      intro _
      rw [if_neg (by unfold okN namesO; simp)]
      rfl
    | succ n ih =>
      intro hn
      have ih := ih (by omega)
      have hget : es[n]? = some (es.getD n entD) := by
        rw [List.getD, List.getElem?_eq_getElem (by omega)]
        rfl
      have hm : es.getD n entD ∈ es := List.mem_of_getElem? hget
      have ht : es.take (n + 1) = es.take n ++ [es.getD n entD] := by rw [List.take_add_one, hget]; rfl
      rw [ht]
      unfold dcK
      generalize es.getD n entD = e at hm ⊢
      have hs := hz e hm
      by_cases hp : e.pg = page
      · rw [if_neg (by simp [hp]), ih]
        have : okN (es.take n ++ [e]) page p = okN (es.take n) page p := by
          unfold okN namesO
          rw [List.map_append, List.map_cons, List.map_nil]
          congr 1
          apply propext
          rw [List.mem_append, List.mem_singleton, hp]
          constructor
          · rintro ⟨h | h, h2⟩
            · exact ⟨h, h2⟩
            · exact (h2 h).elim
          · exact fun ⟨h, h2⟩ => ⟨.inl h, h2⟩
        rw [this]
      · rw [if_pos (by simp [hp]), valV_put, ih]
        by_cases hq : p = e.pg
        · subst hq
          rw [if_pos rfl, if_pos (by unfold okN namesO; simp [hp]), hs]
        · rw [if_neg (fun z => hq (Sum.inr.inj z))]
          have : okN (es.take n ++ [e]) page p = okN (es.take n) page p := by
            unfold okN namesO
            rw [List.map_append, List.map_cons, List.map_nil]
            congr 1
            apply propext
            rw [List.mem_append, List.mem_singleton]
            constructor
            · rintro ⟨h | h, h2⟩
              · exact ⟨h, h2⟩
              · exact (hq h).elim
            · exact fun ⟨h, h2⟩ => ⟨.inl h, h2⟩
          rw [this]
  have := key es.length (Nat.le_refl _)
  rw [List.take_length] at this
  exact this
theorem isAns_nodup {z : Szs} {es : List Ent} {page : Str} {need : Int} {out : List Str} (h : out.all (okN es page) = true) : isAns z es page need out = (decide out.Nodup && decide (need ≤ (out.map (szOf z)).sum)) := by
  unfold isAns
  have : (out.all fun n => decide (n ∈ namesO es ∧ n ≠ page)) = true := h
  rw [this, Bool.true_and]
theorem isAns_not {z : Szs} {es : List Ent} {page : Str} {need : Int} {out : List Str} (h : out.all (okN es page) = false) : isAns z es page need out = false := by
  unfold isAns
  have : (out.all fun n => decide (n ∈ namesO es ∧ n ≠ page)) = false := h
  rw [this, Bool.false_and]
section
variable {K : PySem.W.Frag} {σ : L2.St} {H : Hp} {ta tb te tl : TE} {es : List Ent} {page : Str}
theorem ed_sizes {l : Addr} {xs : List V} {j m : Nat} {vs : List Nat} (h : Ev tl σ H (.ref l)) (hx : SqL K H l xs) (hE : EntL H xs es) (hn : es.length ≤ 60) (hw : ∀ x, wipe ((wipe σ vs).set j (some x)) vs = wipe σ vs)
    (hj : ∀ x, ((wipe σ vs).set j (some x))[j]? = some (some x)) (hm : ∀ x, ((wipe σ vs).set j (some x))[m]? = some (some (.str page))) :
    EvD (tDc (iList K tl) (gName j) (tTest (tOp rNe (tOp (rIxT K) (tVar j) (tC (.int 0))) (tVar m))) (tOp (rIxT K) (tVar j) (tC (.int 0))) (tOp (rIxT K) (tVar j) (tC (.int 1))) vs) σ H (sizesK es page) := by
  unfold sizesK
  rw [← hE.len]
  refine ed_dcW _ _ _ (wi_list h hx) walk_list (by rw [hE.len]; omega) (fun H1 e1 => ex_l e1 hx) fun i H1 x H2 hi e1 y R hR => ?_
  obtain ⟨rfl, hxi⟩ := y
  obtain ⟨e, he, hv⟩ := (hE.ex e1).get hxi
  have hg : es.getD i entD = e := by rw [List.getD, he]; rfl
  rw [hg] at hR
  exact hR _ _ (Ex.refl _) (hw x) (et_test (ev_op (ev_ent (ev_var (hj x)) hv (y := .str e.pg) rfl) (ev_var (hm x)) (rv_ne2 rfl (by rw [dstr])))) (fun _ => ev_ent (ev_var (hj x)) hv rfl) fun _ => ev_ent (ev_var (hj x)) hv rfl
theorem el_okAll {z : Szs} {u d : Addr} {ys : List V} {j m : Nat} {vs : List Nat} (hz : ∀ e ∈ es, e.sz = szOf z e.pg) (h : Ev tl σ H (.ref u)) (hu : H u = some (.tup ys)) (hn : ys.length ≤ 40000) (hd : H d = some (.dK (sizesK es page))) (hp : ∀ y ∈ ys, PartV H y) (hw : ∀ x, wipe ((wipe σ vs).set j (some x)) vs = wipe σ vs)
    (hj : ∀ x, ((wipe σ vs).set j (some x))[j]? = some (some x)) (hm : ∀ x, ((wipe σ vs).set j (some x))[m]? = some (some (.ref d))) :
    EvL (tLc (iTup K tl) (gName j) tYes (tAndV (tCB (rIsiF K) (tCons (tVar j) (tCons (tC (.ty "str")) tNil))) (tDIn (tVar j) (tVar m))) vs) σ H ((ys.map (okV es page)).map V.bl) := by
  have e : (ys.map (okV es page)).map V.bl = given ys.length (fun _ => true) (fun i => V.bl (okV es page (ys.getD i .non))) := by
    rw [given_all, range_map_get ys .non (fun e => V.bl (okV es page e)), List.map_map]
    rfl
  rw [e]
  refine el_lcW _ _ (wi_tup h (st_of hu)) walk_tup hn (fun H1 e1 => st_of (e1 _ _ hu)) fun i H1 x H2 hi e1 y R hR => ?_
  obtain ⟨rfl, hxi⟩ := y
  have hg : ys.getD i .non = x := by rw [List.getD, hxi]; rfl
  rw [hg] at hR
  refine hR _ _ (Ex.refl _) (hw x) et_yes fun _ => ?_
  rcases hp x (List.mem_of_getElem? hxi) with ⟨n, rfl⟩ | ⟨n, rfl⟩ | ⟨l, zs, rfl, hl⟩
  · have hv := sizesK_val (page := page) hz n
    refine ev_is (ev_andV (a := true) (b := okN es page n) (ev_isi (ev_var (hj _)) (.ty "str") (fun _ _ => ty_str) (kit_ty (by decide +kernel))) fun _ => ev_is (et_dIn (k := .str n) (ev_var (hj _)) (ev_var (hm _)) (DGet.k (k := .inr n) (e1 _ _ hd))) ?_) ?_
    · rw [hv]
      by_cases hb : okN es page n = true
      · rw [if_pos hb, hb]; rfl
      · rw [if_neg hb, Bool.eq_false_iff.mpr hb]; rfl
    · rfl
  · exact ev_is (ev_andV (a := false) (b := false) (ev_isi (ev_var (hj _)) (.ty "str") (fun _ _ => ty_int) (kit_ty (by decide +kernel))) fun h => nomatch h) rfl
  · exact ev_is (ev_andV (a := false) (b := false) (ev_isi (ev_var (hj _)) (.ty "str") (fun _ e => ty_lst (e _ _ (e1 _ _ hl))) (kit_ty (by decide +kernel))) fun h => nomatch h) rfl
theorem ev_lenSet {u : Addr} {out : List Str} (ha : Ev ta σ H (.ref u)) (hu : H u = some (.tup (out.map V.str))) (hl : out.length < 64) (hb : Ev tb σ H (.int (out.length : Int))) : Ev (tOp rEq (tLenSetX K ta) tb) σ H (.bl (decide out.Nodup)) := fun H1 e Q q =>
  ha H1 e _ fun H2 e2 => ⟨u, out, rfl, st_of (e2 _ _ (e _ _ hu)), hl, fun n hn => hb H2 (e.trans e2) _ fun H3 e3 => ⟨rfl, by
    have : decide (V.int (n : Int) = V.int (out.length : Int)) = decide out.Nodup := by
      by_cases h : out.Nodup
      · rw [hn.mpr h]; simp [h]
      · have h2 : ¬ n = out.length := fun z => h (hn.mp z)
        rw [decide_eq_false h, decide_eq_false fun z => h2 (by have := V.int.inj z; omega)]
    rw [this]
    exact q H3 (e2.trans e3)⟩⟩
end

section
variable {P : Program} {w : World} {K : PySem.W.Frag} {mg : Str → Option Value} {base : Heap}
abbrev n_is_answer : List Str := ["entries", "page", "need", "may_decline", "value", "sizes", "entry", "name"]
theorem sc_is_answer : FnScope n_is_answer ["entries", "page", "need", "may_decline", "value"] (defScope s_is_answer) := C8.fnScope_by (by decide +kernel)
def sp_is_answer (K : PySem.W.Frag) : Sp := fun vs H Q _ => ∃ (l : Addr) (xs : List V) (es : List Ent) (page : Str) (need : Int) (may : Bool) (v : V) (a : Ans) (z : Szs), vs = [.ref l, .str page, .int need, .bl may, v] ∧ SqL K H l xs ∧ EntL H xs es ∧ es.length ≤ 60 ∧ (∀ e ∈ es, e.sz = szOf z e.pg) ∧ AnsV H v a ∧ (∀ st out, a = .ok st out → out.length ≤ 62) ∧ RetV (.bl (goodA z es page need may a)) H Q
theorem ok_is_answer  (T : Ctx K mg) : C8.Cal P w K mg base 1 "is_answer" (sp_is_answer K) [] := by
  refine cal_of T.f_is_answer (T.glo _ (by decide)) (N := n_is_answer) sc_is_answer (fun _ _ _ _ _ _ us hl => match us, hl with | [_, _, _, _, _], _ => rfl) (fun vs H Q E h => ?len) (fun cdv A outer s H vs Q E hr h => ?body)
  case len =>
    obtain ⟨_, _, _, _, _, _, _, _, _, rfl, _⟩ := h
    rfl
  case body =>
    obtain ⟨l, xs, es, page, need, may, v, a, z, rfl, hl, hE, hn, hz, ha, ho, k⟩ := h
    refine ⟨_, (pss_cons (ps_if (PW.pt (pw_or (pt_not (pt_val (pe_callB (call_isiF (K := K)) (by rfl) (T.free _ (by decide)) (by decide +kernel) (pa_cons (pv 4) (pa_cons (pe_bltn (v := .ty "tuple") (by rfl) (T.free _ (by decide)) (by decide +kernel) rfl) pa_nil))))) (pw_or1 (pt_cmpR op_ne (pe_callB (call_len_seqK (K := K)) (by rfl) (T.free _ (by decide)) (by decide +kernel) (pa_cons (pv 4) pa_nil)) pe_int (by rfl))))) (pss_one (ps_ret pe_bl)) pss_nil) (pss_cons (ps_if (pt_cmpR op_isN (pe_ix (ix_tupK (K := K)) (pv 4) pe_int (fun _ _ => rfl)) pe_non (by rfl)) (pss_one (ps_ret (pv 3))) pss_nil) (pss_cons (ps_set (i := 5) sc_is_answer.nd rfl (Or.inr rfl) (pe_dc (own := [("entry", 6)]) (by rfl) sc_is_answer.nd (pi_listK (K := K) (pv 0)) (blkOk_by (own := [("entry", 6)]) (N := n_is_answer) (sc := defScope s_is_answer) (by decide +kernel)) (fun _ _ _ _ _ => pg_name (i := 6) sc_is_answer.nd rfl (Or.inl rfl)) (fun _ _ _ _ _ => by exact (pts_one (pt_cmpR op_ne (pe_ix (ix_tupK (K := K)) (pv 6) pe_int (fun _ _ => rfl)) (pv 1) (by rfl)))) (fun _ _ _ _ _ => by exact (pe_ix (ix_tupK (K := K)) (pv 6) pe_int (fun _ _ => rfl))) (fun _ _ _ _ _ => by exact (pe_ix (ix_tupK (K := K)) (pv 6) pe_int (fun _ _ => rfl))))) (pss_cons (ps_if (PW.pt (pw_or (pt_not (pt_val (pe_callB (call_isiF (K := K)) (by rfl) (T.free _ (by decide)) (by decide +kernel) (pa_cons (pe_ix (ix_tupK (K := K)) (pv 4) pe_int (fun _ _ => rfl)) (pa_cons (pe_bltn (v := .ty "tuple") (by rfl) (T.free _ (by decide)) (by decide +kernel) rfl) pa_nil))))) (pw_or1 (pt_not (pt_val (pe_callB (cr_allK (K := K) rfl) (by rfl) (T.free _ (by decide)) (by decide +kernel) (pa_cons (pe_lc (own := [("name", 7)]) (by rfl) sc_is_answer.nd (pi_tupK (K := K) (pe_ix (ix_tupK (K := K)) (pv 4) pe_int (fun _ _ => rfl))) (blkOk_by (own := [("name", 7)]) (N := n_is_answer) (sc := defScope s_is_answer) (by decide +kernel)) (fun _ _ _ _ _ => pg_name (i := 7) sc_is_answer.nd rfl (Or.inl rfl)) (fun _ _ _ _ _ => by exact pts_nil) (fun _ _ _ _ _ => by exact (pe_and (pe_callB (call_isiF (K := K)) (by rfl) (T.free _ (by decide)) (by decide +kernel) (pa_cons (pv 7) (pa_cons (pe_bltn (v := .ty "str") (by rfl) (T.free _ (by decide)) (by decide +kernel) rfl) pa_nil))) (pe_one (pe_cmp (pc_din (hu_of hr) (pv 7) (pv 5)) rfl))))) pa_nil))))))) (pss_one (ps_ret pe_bl)) pss_nil) (pss_one (ps_ret (pe_and (pe_cmpR op_eq (pe_lenSetX (by rfl) (by rfl) (T.free _ (by decide)) (by rfl) (T.free _ (by decide)) (pe_ix (ix_tupK (K := K)) (pv 4) pe_int (fun _ _ => rfl))) (pe_callB (call_len_seqK (K := K)) (by rfl) (T.free _ (by decide)) (by decide +kernel) (pa_cons (pe_ix (ix_tupK (K := K)) (pv 4) pe_int (fun _ _ => rfl)) pa_nil)) (by rfl)) (pe_one (pe_cmpR op_ge (pe_callB (cr_sumK (K := K) rfl) (by rfl) (T.free _ (by decide)) (by decide +kernel) (pa_cons (pe_lc (own := [("name", 7)]) (by rfl) sc_is_answer.nd (pi_tupK (K := K) (pe_ix (ix_tupK (K := K)) (pv 4) pe_int (fun _ _ => rfl))) (blkOk_by (own := [("name", 7)]) (N := n_is_answer) (sc := defScope s_is_answer) (by decide +kernel)) (fun _ _ _ _ _ => pg_name (i := 7) sc_is_answer.nd rfl (Or.inl rfl)) (fun _ _ _ _ _ => by exact pts_nil) (fun _ _ _ _ _ => by exact (pe_dget (hu_of hr) (pv 5) (pv 7) (fun _ _ => rfl)))) pa_nil)) (pv 2) (by rfl)))))))))), ?_⟩
    have K1 := ansKind (z := z) (es := es) (page := page) (need := need) (may := may) ha ho
    cases K1 with
    | bad g h =>
      refine q_when (h K _ _ (ev_var rfl)) (fun _ H1 e1 => ?_) fun h => nomatch h
      exact s_ret ev_c fun H2 e2 => by rw [← g]; exact k H2 (e1.trans e2)
    | @non t sv e ht g =>
      subst e
      refine q_when (et_two (ev_var rfl) ht) (fun h => nomatch h) fun _ H1 e1 => ?_
      refine q_when (b := true) (et_is (et_test (ev_op (ev_op (ev_var rfl) ev_c (rv_ixT (st_of (e1 _ _ ht)) rfl)) ev_c rv_isN)) rfl) (fun _ H2 e2 => ?_) fun h => nomatch h
      exact s_ret (ev_var rfl) fun H3 e3 => by rw [g] at k; exact k H3 ((e1.trans e2).trans e3)
    | @lst t l2 sv ys e ht hl2 g =>
      subst e
      refine q_when (et_two (ev_var rfl) ht) (fun h => nomatch h) fun _ H1 e1 => ?_
      refine q_when (b := false) (et_is (et_test (ev_op (ev_op (ev_var rfl) ev_c (rv_ixT (st_of (e1 _ _ ht)) rfl)) ev_c rv_isN)) rfl) (fun h => nomatch h) fun _ H2 e2 => ?_
      refine q_asgDc (ed_sizes (ev_var rfl) (ex_l (e1.trans e2) hl) (hE.ex (e1.trans e2)) hn (fun _ => rfl) (fun _ => rfl) fun _ => rfl) fun d H3 hd e3 h3 => ?_
      have e03 := (e1.trans e2).trans e3
      refine q_when (b := true) (et_or (a := true) (b := false) (et_not (a := false) (et_B (ev_isi (ev_op (ev_var rfl) ev_c (rv_ixT (st_of (e03 _ _ ht)) rfl)) (.ty "tuple") (fun H4 e4 => ty_lst (e4 _ _ (e03 _ _ hl2))) (kit_ty (by decide +kernel))))) fun h => nomatch h) (fun _ H4 e4 => ?_) fun h => nomatch h
      exact s_ret ev_c fun H5 e5 => by rw [← g]; exact k H5 ((e03.trans e4).trans e5)
    | @part t u sv y e ht hu hp hy g =>
      subst e
      refine q_when (et_two (ev_var rfl) ht) (fun h => nomatch h) fun _ H1 e1 => ?_
      refine q_when (b := false) (et_is (et_test (ev_op (ev_op (ev_var rfl) ev_c (rv_ixT (st_of (e1 _ _ ht)) rfl)) ev_c rv_isN)) rfl) (fun h => nomatch h) fun _ H2 e2 => ?_
      refine q_asgDc (ed_sizes (ev_var rfl) (ex_l (e1.trans e2) hl) (hE.ex (e1.trans e2)) hn (fun _ => rfl) (fun _ => rfl) fun _ => rfl) fun d H3 hd e3 h3 => ?_
      have e03 := (e1.trans e2).trans e3
      refine q_when (b := true) (et_is (et_or (a := false) (b := true) (et_not (a := true) (et_B (ev_isi (ev_op (ev_var rfl) ev_c (rv_ixT (st_of (e03 _ _ ht)) rfl)) (.ty "tuple") (fun H4 e4 => ty_tup (e4 _ _ (e03 _ _ hu))) (kit_ty (by decide +kernel))))) fun _ => et_not (a := false) (et_B (ev_is (ev_all (bs := [y].map (okV es page)) (el_okAll hz (ev_op (ev_var rfl) ev_c (rv_ixT (st_of (e03 _ _ ht)) rfl)) (e03 _ _ hu) (by show 1 ≤ 40000; decide) h3 ?_ (fun _ => rfl) (fun _ => rfl) fun _ => rfl)) ?_))) rfl) (fun _ H4 e4 => ?_) fun h => nomatch h
      · intro w hw
        rw [List.mem_singleton.mp hw]
        rcases hp with p | p | ⟨l, ys, p, q⟩
        · exact .inl p
        · exact .inr (.inl p)
        · exact .inr (.inr ⟨l, ys, p, e03 _ _ q⟩)
      · cases y with
        | str n => exact (hy n rfl).elim
        | _ => rfl
      · exact s_ret ev_c fun H5 e5 => by rw [← g]; exact k H5 ((e03.trans e4).trans e5)
    | @out t u sv out e ht hu ho2 g =>
      subst e
      refine q_when (et_two (ev_var rfl) ht) (fun h => nomatch h) fun _ H1 e1 => ?_
      refine q_when (b := false) (et_is (et_test (ev_op (ev_op (ev_var rfl) ev_c (rv_ixT (st_of (e1 _ _ ht)) rfl)) ev_c rv_isN)) rfl) (fun h => nomatch h) fun _ H2 e2 => ?_
      refine q_asgDc (ed_sizes (ev_var rfl) (ex_l (e1.trans e2) hl) (hE.ex (e1.trans e2)) hn (fun _ => rfl) (fun _ => rfl) fun _ => rfl) fun d H3 hd e3 h3 => ?_
      have e03 := (e1.trans e2).trans e3
      have ho3 : (out.map V.str).map (okV es page) = out.map (okN es page) := by rw [List.map_map]; rfl
      refine q_when (b := !(out.all (okN es page))) (et_is (et_or (a := false) (b := !(out.all (okN es page))) (et_not (a := true) (et_B (ev_isi (ev_op (ev_var rfl) ev_c (rv_ixT (st_of (e03 _ _ ht)) rfl)) (.ty "tuple") (fun H4 e4 => ty_tup (e4 _ _ (e03 _ _ hu))) (kit_ty (by decide +kernel))))) fun _ => et_not (et_B (ev_is (ev_all (bs := (out.map V.str).map (okV es page)) (el_okAll hz (ev_op (ev_var rfl) ev_c (rv_ixT (st_of (e03 _ _ ht)) rfl)) (e03 _ _ hu) (by rw [List.length_map]; omega) h3 ?_ (fun _ => rfl) (fun _ => rfl) fun _ => rfl)) ?_))) (by rw [Bool.false_or])) (fun hb H4 e4 => ?_) fun hb H4 e4 => ?_
      · intro w hw
        obtain ⟨n, _, rfl⟩ := List.mem_map.mp hw
        exact .inl ⟨n, rfl⟩
      · rw [ho3, List.all_map]
        rfl
      · have hb : out.all (okN es page) = false := by simpa using hb
        rw [isAns_not hb] at g
        exact s_ret ev_c fun H5 e5 => by rw [← g]; exact k H5 ((e03.trans e4).trans e5)
      · have hb : out.all (okN es page) = true := by simpa using hb
        rw [isAns_nodup hb] at g
        rw [g] at k
        have e04 := e03.trans e4
        refine s_ret (ev_andV (ev_lenSet (ev_op (ev_var rfl) ev_c (rv_ixT (st_of (e04 _ _ ht)) rfl)) (e04 _ _ hu) (by omega) (ev_is (ev_lenT (ev_op (ev_var rfl) ev_c (rv_ixT (st_of (e04 _ _ ht)) rfl)) (st_of (e04 _ _ hu))) (by rw [List.length_map]))) fun _ =>
          ev_is (ev_op (ev_sum (ns := out.map (szOf z)) ?_) (ev_var rfl) rv_I0) rfl) fun H5 e5 => k H5 (e04.trans e5)
        have e : (out.map (szOf z)).map V.int = given (out.map V.str).length (fun _ => true) (fun i => V.int (szOf z (out.getD i ""))) := by
          rw [given_all, List.length_map, range_map_get out "" (fun e => V.int (szOf z e)), List.map_map]
          rfl
        rw [e]
        refine el_lcW _ _ (wi_tup (ev_op (ev_var rfl) ev_c (rv_ixT (st_of (e04 _ _ ht)) rfl)) (st_of (e04 _ _ hu))) walk_tup (by rw [List.length_map]; omega) (fun H5 e5 => st_of (e5 _ _ (e04 _ _ hu))) fun i H5 x H6 hi e5 y R hRR => ?_
        obtain ⟨rfl, hxi⟩ := y
        rw [List.getElem?_map] at hxi
        obtain ⟨n, hn2, rfl⟩ := Option.map_eq_some_iff.mp hxi
        have hg : out.getD i "" = n := by rw [List.getD, hn2]; rfl
        rw [hg] at hRR
        refine hRR _ _ (Ex.refl _) rfl et_yes fun _ => ev_dget (k := .str n) (ev_var rfl) (ev_var rfl) ?_
        have hv := sizesK_val (page := page) hz n
        rw [if_pos (List.all_eq_true.mp hb n (List.mem_of_getElem? hn2))] at hv
        rw [← hv]
        exact DGet.k (k := .inr n) (e5 _ _ (e4 _ _ h3))
end
theorem takenL_len {es : List Ent} {page : Str} {need : Int} (h : es.length ≤ 60) : (takenL es page need).length ≤ 60 := Nat.le_trans (takenA_len es page need) h
theorem leastO_len (es : List Ent) : (leastO es).length = es.length := by
  unfold leastO leastI
  rw [List.length_map, List.length_mergeSort, List.length_range]
theorem turnO_len (es : List Ent) (n : Int) : (turnO es n).length ≤ es.length := by
  unfold turnO
  split
  · rw [List.length_reverse]; exact Nat.le_refl _
  · rw [List.length_append, List.length_drop, List.length_take]; omega
theorem namesO_len (es : List Ent) : (namesO es).length = es.length := List.length_map _
theorem ruleF_len {r : Nat} {st : RSt} {es : List Ent} {page : Str} {need : Int} (h : es.length ≤ 60) {st' : RSt} {out : List Str} (e : ruleF r st es page need = .ok st' out) : out.length ≤ 62 := by
  have h1 := namesO_len es
  have t1 := takenL_len (page := page) (need := need) h
  match r, e with
  | 0, e => cases e; omega
  | 1, e =>
    cases e
    have := takenL_len (page := page) (need := need) (Nat.le_trans (turnO_len es (st.count 1)) h)
    omega
  | 2, e =>
    cases e
    have := takenL_len (page := page) (need := need) (Nat.le_trans (Nat.le_of_eq (leastO_len es)) h)
    omega
  | 3, e =>
    cases e
    split
    · have := List.length_filter_le (fun x => decide (x ≠ page)) (namesO es)
      omega
    · omega
  | 4, e =>
    have e : (if 0 < need ∧ page ∉ namesO es ∧ page ∉ st.seenL then Ans.no (.seen ((st.seenL ++ [page]).drop ((st.seenL ++ [page]).length - 2))) else .ok (.seen st.seenL) (takenL es.reverse page need)) = .ok st' out := e
    split at e
    · cases e
    · cases e
      have := takenL_len (es := es.reverse) (page := page) (need := need) (by rw [List.length_reverse]; exact h)
      omega
  | (n + 5), e =>
    have e : wildF (st.count 0) es page (takenL es page need) = .ok st' out := e
    unfold wildF at e
    generalize ((st.count 0 * st.count 0 + (es.map (·.last)).sum) % 16).toNat = i at e
    generalize takenL es page need = good at t1 e
    unfold wildA at e
    split at e <;> (try cases e)
    · omega
    · rw [List.length_cons]; omega
    · omega
    · rw [List.length_drop]; omega
    · rw [List.length_singleton]; omega
    · rw [List.length_append, List.length_append, List.length_take]; omega
    · omega
theorem ruleT_ok {P : Program} {w : World} {K : PySem.W.Frag} {mg : Str → Option Value} {base : Heap} (T : Ctx K mg) : ∀ r, r < 6 → C8.CalAt P w K mg base 2 (fR K r) (sp_rule K r)
  | 0, _ => calAt_of (ok_l_first T) (T.glo _ (by decide)) (by decide)
  | 1, _ => calAt_of (ok_l_turning T) (T.glo _ (by decide)) (by decide)
  | 2, _ => calAt_of (ok_l_least T) (T.glo _ (by decide)) (by decide)
  | 3, _ => calAt_of (ok_l_generous T) (T.glo _ (by decide)) (by decide)
  | 4, _ => calAt_of (ok_l_shy T) (T.glo _ (by decide)) (by decide)
  | 5, _ => calAt_of (ok_l_wild T) (T.glo _ (by decide)) (by decide)
theorem held_rules {P : Program} {w : World} {K : PySem.W.Frag} {mg : Str → Option Value} {base : Heap} (T : Ctx K mg) : ∀ r, r < 6 → C8.CalAt P w K mg base 2 (fR K r) (sp_rule K r) := ruleT_ok T
def OutV (H : Hp) (v : V) : Option (List Str) → Prop
  | none => v = .non
  | some out => ∃ u, v = .ref u ∧ H u = some (.tup (out.map V.str))
theorem OutV.ex {H H' : Hp} {v : V} {o : Option (List Str)} (h : OutV H v o) (e : Ex H H') : OutV H' v o := by
  cases o with
  | none => exact h
  | some out => obtain ⟨u, a, b⟩ := h; exact ⟨u, a, e _ _ b⟩
/-- the entries of a machine, oldest first -/
structure EntsOk (z : Szs) (es : List Ent) : Prop where
  len : es.length ≤ 60
  sz : ∀ e ∈ es, e.sz = szOf z e.pg
  since : (es.map (·.since)).Pairwise (· < ·)

section
variable {P : Program} {w : World} {K : PySem.W.Frag} {mg : Str → Option Value} {base : Heap}
abbrev n_answer_of : List Str := ["rule", "state", "entries", "page", "need", "may_decline", "value"]
theorem sc_answer_of : FnScope n_answer_of ["rule", "state", "entries", "page", "need", "may_decline"] (defScope s_answer_of) := C8.fnScope_by (by decide +kernel)
def sp_answer_of (K : PySem.W.Frag) : Sp := fun vs H Q _ => ∃ (r : Nat) (sv : V) (l : Addr) (xs : List V) (es : List Ent) (page : Str) (need : Int) (may : Bool) (st : RSt) (z : Szs), vs = [.ref (fR K r), sv, .ref l, .str page, .int need, .bl may] ∧ r < 6 ∧ StV H sv st ∧ SqL K H l xs ∧ EntL H xs es ∧ EntsOk z es ∧ StOk r st 200 ∧
  ∀ t sv' ov H', Ex H H' → H' t = some (.tup [sv', ov, .bl (answerF z es page need may st (ruleF r st es page need)).2.2]) → StV H' sv' (answerF z es page need may st (ruleF r st es page need)).1 → OutV H' ov (answerF z es page need may st (ruleF r st es page need)).2.1 → Q (.ref t) H'
theorem ok_answer_of  (T : Ctx K mg) : C8.Cal P w K mg base 3 "answer_of" (sp_answer_of K) [] := by
  refine cal_of T.f_answer_of (T.glo _ (by decide)) (N := n_answer_of) sc_answer_of (fun _ _ _ _ _ _ us hl => match us, hl with | [_, _, _, _, _, _], _ => rfl) (fun vs H Q E h => ?len) (fun cdv A outer s H vs Q E hr h => ?body)
  case len =>
    obtain ⟨_, _, _, _, _, _, _, _, _, _, rfl, _⟩ := h
    rfl
  case body =>
    obtain ⟨r, sv, l, xs, es, page, need, may, st, z, rfl, hr6, hs, hl, hE, hO, hst, k⟩ := h
    refine ⟨_, (pss_cons (ps_set (i := 6) sc_answer_of.nd rfl (Or.inl rfl) (pe_callR (i := 0) (F := fR K) (n := 6) (sp := sp_rule K) (held_rules T) hr (by decide) rfl (Or.inl rfl) (pa_cons (pv 1) (pa_cons (pe_callTy (call_list_ofK (K := K)) (by rfl) (T.free _ (by decide)) (by decide +kernel) (pa_cons (pv 2) pa_nil)) (pa_cons (pv 3) (pa_cons (pv 4) pa_nil)))))) (pss_cons (ps_if (pt_val (C8.pe_c (ok_is_answer T) hr (by decide) (by rfl) (pa_cons (pv 2) (pa_cons (pv 3) (pa_cons (pv 4) (pa_cons (pv 5) (pa_cons (pv 6) pa_nil))))))) (pss_one (ps_ret (pe_tup (pa_cons (pe_ix (ix_tupK (K := K)) (pv 6) pe_int (fun _ _ => rfl)) (pa_cons (pe_ix (ix_tupK (K := K)) (pv 6) pe_int (fun _ _ => rfl)) (pa_cons pe_bl pa_nil)))))) pss_nil) (pss_one (ps_ret (pe_tup (pa_cons (pv 1) (pa_cons (C8.pe_c (ok_taken T) hr (by decide) (by rfl) (pa_cons (pe_callBK (cr_sortedX T hr) (by rfl) (T.free _ (by decide)) (by decide +kernel) (pa_cons (pv 2) pa_nil) (pk_cons (C8.pe_gc (v := .ref (He.ga K "since_of")) (by rfl) ⟨_, T.glo _ (by decide), rfl⟩) pk_nil)) (pa_cons (pv 3) (pa_cons (pv 4) pa_nil)))) (pa_cons pe_bl pa_nil)))))))), ?_⟩
    have hn := hO.len
    have hxl := hE.len
    refine q_asgD ?_
    refine ⟨r, hr6, rfl, _, rfl, _, rfl, l, xs, rfl, .inl hl, fun l2 hl2 => ⟨_, rfl, _, rfl, sv, l2, xs, es, page, need, st, rfl, ?_, sq_of upd_same, hE.ex (Ex.new hl2), ⟨hn, hst⟩, fun v H1 e1 hv => ?_⟩⟩
    · exact hs.ex (Ex.new hl2)
    have e01 : Ex H H1 := (Ex.new (o := .lst xs) hl2).trans e1
    have hol : ∀ st' out, ruleF r st es page need = .ok st' out → out.length ≤ 62 := fun st' out e => ruleF_len hn e
    have hG := ansKind (z := z) (es := es) (page := page) (need := need) (may := may) hv hol
    have hA : ∀ a : Ans, (goodA z es page need may a = false → answerF z es page need may st a = (st, some (takenL es page need), true)) ∧ (∀ st' out, a = .ok st' out → goodA z es page need may a = true → answerF z es page need may st a = (st', some out, false)) ∧ (∀ st', a = .no st' → goodA z es page need may a = true → answerF z es page need may st a = (st', none, false)) := by
      intro a
      refine ⟨fun h => ?_, ?_, ?_⟩
      · cases a with
        | ok st' out => exact if_neg (by rw [show isAns z es page need out = false from h]; decide)
        | no st' => exact if_neg (by rw [show may = false from h]; decide)
        | bad => rfl
      · rintro st' out rfl h
        exact if_pos h
      · rintro st' rfl h
        exact if_pos h
    refine q_when (b := goodA z es page need may (ruleF r st es page need)) (et_B (ev_callV (ea_cons (ev_var rfl) (ea_cons (ev_var rfl) (ea_cons (ev_var rfl) (ea_cons (ev_var rfl) (ea_cons (ev_var rfl) ea_nil))))) fun H2 e2 Q q => ⟨l, xs, es, page, need, may, v, _, z, rfl, ex_l (e01.trans e2) hl, hE.ex (e01.trans e2), hn, hO.sz, hv.ex e2, hol, q⟩)) (fun hb H2 e2 => ?_) fun hb H2 e2 => ?_
    · obtain ⟨a1, a2, a3⟩ := hA (ruleF r st es page need)
      generalize ruleF r st es page need = a at *
      have hv2 := hv.ex e2
      cases a with
      | ok st' out =>
        obtain ⟨t, u, sv2, rfl, h1, h2, h3⟩ := hv2
        rw [a2 st' out rfl hb] at k
        refine s_retU (eu_tup (ea_cons (ev_op (ev_var rfl) ev_c (rv_ixT (st_of h1) (v := sv2) rfl)) (ea_cons (ev_op (ev_var rfl) ev_c (rv_ixT (st_of h1) (v := .ref u) rfl)) (ea_cons ev_c ea_nil))) (by show 3 ≤ 100000; decide)) fun p H3 _ e3 h3' => k p sv2 (.ref u) H3 ((e01.trans e2).trans e3) h3' (h2.ex e3) ⟨u, rfl, e3 _ _ h3⟩
      | no st' =>
        obtain ⟨t, sv2, rfl, h1, h2⟩ := hv2
        rw [a3 st' rfl hb] at k
        refine s_retU (eu_tup (ea_cons (ev_op (ev_var rfl) ev_c (rv_ixT (st_of h1) (v := sv2) rfl)) (ea_cons (ev_op (ev_var rfl) ev_c (rv_ixT (st_of h1) (v := .non) rfl)) (ea_cons ev_c ea_nil))) (by show 3 ≤ 100000; decide)) fun p H3 _ e3 h3' => k p sv2 .non H3 ((e01.trans e2).trans e3) h3' (h2.ex e3) rfl
      | bad => exact nomatch hb
    · obtain ⟨a1, a2, a3⟩ := hA (ruleF r st es page need)
      rw [a1 hb] at k
      have e02 := e01.trans e2
      refine ⟨_, rfl, _, rfl, l, xs, es.map (·.since), rfl, rfl, ex_l e02 hl, by omega, by rw [List.length_map]; omega, hO.since, fun i x n h1 h2 => ?_, fun p H3 hS hp hp3 => ?_⟩
      · obtain ⟨e, he, t, rfl, ht⟩ := (hE.ex e02).get h1
        rw [List.getElem?_map, he] at h2
        cases h2
        exact ⟨t, _, _, _, _, rfl, st_of ht⟩
      · have e3 : Ex H2 H3 := fun a o h => hS a o h
        refine ⟨_, rfl, _, rfl, p, xs, es, page, need, rfl, sq_of hp3, hE.ex (e02.trans e3), by omega, fun u H4 hu e4 h4 => ?_⟩
        refine ⟨sz_of (by show 3 ≤ 100000; decide), fun t ht => k t sv (.ref u) _ ((e02.trans e3).trans (e4.trans (Ex.new ht))) upd_same (hs.ex ((e02.trans e3).trans (e4.trans (Ex.new ht)))) ⟨u, rfl, Ex.new ht _ _ h4⟩⟩
end
end N32
set_option Elab.async false
set_option linter.all false
set_option maxRecDepth 100000
set_option maxHeartbeats 4000000

namespace N32
open PySem PySem.Spec PyProof.Rows L2 Evl
/-! ### more of the cells -/
theorem SatF.sub {H : Hp} {l' l : List HP} (s : l'.Sublist l) : ∀ {G : Fp}, SatF H l G → ∃ G', SatF H l' G' ∧ ∀ a, G' a → G a := by
  induction s with
  | slnil => exact fun h => ⟨_, h, fun _ z => z⟩
  | cons P s ih =>
    rintro G ⟨F1, F2, h1, h2, d, u⟩
    obtain ⟨G', g, k⟩ := ih h2
    exact ⟨G', g, fun a z => (u a).mpr (.inr (k a z))⟩
  | cons_cons P s ih =>
    rintro G ⟨F1, F2, h1, h2, d, u⟩
    obtain ⟨G', g, k⟩ := ih h2
    exact ⟨fun a => F1 a ∨ G' a, ⟨F1, G', h1, g, fun a x y => d a x (k a y), fun _ => Iff.rfl⟩, fun a z => (u a).mpr (z.imp_right (k a))⟩
theorem Sat.sub {H : Hp} {l' l : List HP} (h : Sat H l) (s : l'.Sublist l) : Sat H l' := let ⟨_, g⟩ := h; let ⟨G', g', _⟩ := g.sub s; ⟨G', g'⟩
/-- what holds of values and of tuples -/
def vp (φ : Hp → Prop) (st : ∀ H H', φ H → Tu H H' → φ H') : HP where
  on := fun H F => φ H ∧ ∀ a, ¬ F a
  stay := fun ⟨e, n⟩ k => ⟨st _ _ e fun a xs h => k a _ h (.inr trivial), n⟩
  own := fun ⟨_, n⟩ a z => (n a z).elim
theorem Sat.vp {H : Hp} {φ : Hp → Prop} {st : ∀ H H', φ H → Tu H H' → φ H'} {l : List HP} : Sat H (N32.vp φ st :: l) ↔ φ H ∧ Sat H l := by
  constructor
  · rintro ⟨G, F1, F2, ⟨e, n⟩, h2, d, u⟩
    exact ⟨e, F2, h2⟩
  · rintro ⟨e, G, g⟩
    exact ⟨G, fun _ => False, G, ⟨e, fun _ z => z⟩, g, fun _ z => z.elim, fun _ => (false_or _).symm ▸ Iff.rfl⟩
theorem Sat.pu {H : Hp} {φ : Prop} {l : List HP} : Sat H (N32.pu φ :: l) ↔ φ ∧ Sat H l := ⟨fun h => ⟨h.prop, h.tail⟩, fun ⟨a, b⟩ => b.addP a⟩
theorem Sat.tp {H : Hp} {p : Addr} {xs : List V} {l : List HP} : Sat H (N32.tp p xs :: l) ↔ H p = some (.tup xs) ∧ Sat H l := ⟨fun h => ⟨h.getT 0 rfl, h.tail⟩, fun ⟨a, b⟩ => b.addT a⟩
theorem StV.tu {H H' : Hp} {v : V} {st : RSt} (h : StV H v st) (e : Tu H H') : StV H' v st := by
  cases st with
  | none => exact h
  | num n => exact h
  | seen xs => obtain ⟨t, a, b⟩ := h; exact ⟨t, a, e _ _ b⟩
theorem Tu.refl (H : Hp) : Tu H H := fun _ _ h => h
theorem Tu.trans {H H1 H2 : Hp} (a : Tu H H1) (b : Tu H1 H2) : Tu H H2 := fun x o h => b x o (a x o h)
theorem Tu.upd {H : Hp} {p : Addr} {o o' : HO} (h : H p = some o) (n : ¬ isTup o := by exact fun z => z) : Tu H (L2.upd H p o') := fun a xs e => by
  rw [upd_ne]
  · exact e
  · rintro rfl
    rw [h] at e
    cases e
    exact n trivial
theorem Tu.new {H : Hp} {p : Addr} {o : HO} (h : H p = none) : Tu H (L2.upd H p o) := Ex.tu (Ex.new h)
/-- two cells of a list stand apart -/
theorem Sat.ne {H : Hp} {l : List HP} (h : Sat H l) {i j : Nat} {p q : Addr} {o o' : HO} (hi : l[i]? = some (pt p o)) (hj : (l.eraseIdx i)[j]? = some (pt q o')) : p ≠ q := by
  have h1 := (h.pull i hi).perm ((pull_perm hj).cons _)
  exact h1.apart

/-! ### machines in the heap -/
structure RowX where
  p : Addr
  dx : Addr
  r : RowD
def RowO (K : PySem.W.Frag) (p dx : Addr) (r : RowD) : HO := SlX.SlO p (He.ga K "Row") dx [some (.int r.last), some (.int r.since), some (.int r.start), some (.int r.uses)]
def rowCs (K : PySem.W.Frag) (rs : List RowX) : List HP := rs.flatMap fun x => [pt x.p (RowO K x.p x.dx x.r), pt x.dx (.xd [])]
def rowK (rs : List RowX) : List (Key × V) := rs.map fun x => (.inr x.r.pg, .ref x.p)
structure MX where
  dx : Addr
  szs : Addr
  tk : Addr
  rows : Addr
  dirty : Addr
  pins : Addr
  counts : Addr
  sv : V
  ds : List (Key × V)
  rs : List RowX
  hits : Int
  reads : Int
  writes : Int
  broken : Int
def mF (K : PySem.W.Frag) (M : M) (x : MX) : List (Str × V) := [("own_share", .int M.share), ("own_rule", .ref (fR K M.rule)), ("own_sizes", .ref x.szs), ("own_ticks", .ref x.tk), ("own_rows", .ref x.rows), ("own_dirty", .ref x.dirty), ("own_pins", .ref x.pins), ("own_state", x.sv), ("own_counts", .ref x.counts), ("own_moment", .int M.moment)]
def cntK (n : Int) (x : MX) : List (Key × V) := [(.inr "requests", .int n), (.inr "hits", .int x.hits), (.inr "reads", .int x.reads), (.inr "writes", .int x.writes), (.inr "broken", .int x.broken)]
/-- the cells of a machine: 0 itself, 1 its rows, 2 its dirty pages, 3 its counts, 4 its sizes, 5 its pins, then what does not change and the rows -/
def mCs (K : PySem.W.Frag) (m : Addr) (z : Szs) (M : M) (x : MX) : List HP :=
  [pt m (.ins (He.ga K "Alone") x.dx (mF K M x)), pt x.rows (.dK (rowK x.rs)), pt x.dirty (.dK x.ds), pt x.counts (.dK (cntK M.reqs x)), pt x.szs (.dK (szK z)), pt x.pins (.lst []),
    tp x.tk [.int 0, .int 0], vp (fun H => StV H x.sv M.st) (fun _ _ h e => h.tu e), pu (x.rs.map (·.r) = M.rows ∧ x.ds.length ≤ M.dirt), al (rowCs K x.rs)]
def MachP (K : PySem.W.Frag) (m : Addr) (z : Szs) (M : M) : HP := ex fun x => al (mCs K m z M x)
theorem MachP.open_ {K : PySem.W.Frag} {m : Addr} {z : Szs} {M : M} {H : Hp} {R : List HP} : Sat H (MachP K m z M :: R) ↔ ∃ x, Sat H (mCs K m z M x ++ R) := by
  unfold MachP
  rw [Sat.ex]
  exact exists_congr fun x => Sat.al
/-- what is read of a machine -/
structure MachV (K : PySem.W.Frag) (H : Hp) (m : Addr) (z : Szs) (M : M) (x : MX) : Prop where
  ins : H m = some (.ins (He.ga K "Alone") x.dx (mF K M x))
  rows : H x.rows = some (.dK (rowK x.rs))
  dirty : H x.dirty = some (.dK x.ds)
  counts : H x.counts = some (.dK (cntK M.reqs x))
  szs : H x.szs = some (.dK (szK z))
  pins : H x.pins = some (.lst [])
  tk : H x.tk = some (.tup [.int 0, .int 0])
  st : StV H x.sv M.st
  rs : x.rs.map (·.r) = M.rows
  ds : x.ds.length ≤ M.dirt
  row : ∀ y ∈ x.rs, H y.p = some (RowO K y.p y.dx y.r) ∧ H y.dx = some (.xd [])
  ne : x.szs ≠ x.rows
theorem Sat.rowCs {K : PySem.W.Frag} {H : Hp} : ∀ {rs : List RowX} {R : List HP}, Sat H (N32.rowCs K rs ++ R) → ∀ y ∈ rs, H y.p = some (RowO K y.p y.dx y.r) ∧ H y.dx = some (.xd [])
  | [], _, _, y, hy => nomatch hy
  | x :: rs, R, h, y, hy => by
    have h : Sat H (pt x.p (RowO K x.p x.dx x.r) :: pt x.dx (.xd []) :: (N32.rowCs K rs ++ R)) := h
    rcases List.mem_cons.mp hy with rfl | hy
    · exact ⟨h.get 0 rfl, h.get 1 rfl⟩
    · exact Sat.rowCs h.tail.tail y hy
theorem Sat.machV {K : PySem.W.Frag} {m : Addr} {z : Szs} {M : M} {x : MX} {H : Hp} {R : List HP} (h : Sat H (mCs K m z M x ++ R)) : MachV K H m z M x := by
  have h7 : Sat H (N32.vp (fun H => StV H x.sv M.st) (fun _ _ h e => h.tu e) :: N32.pu (x.rs.map (·.r) = M.rows ∧ x.ds.length ≤ M.dirt) :: N32.al (N32.rowCs K x.rs) :: R) := h.tail.tail.tail.tail.tail.tail.tail
  obtain ⟨s1, h8⟩ := Sat.vp.mp h7
  obtain ⟨⟨s2, s3⟩, h9⟩ := Sat.pu.mp h8
  exact ⟨h.get 0 rfl, h.get 1 rfl, h.get 2 rfl, h.get 3 rfl, h.get 4 rfl, h.get 5 rfl, h.getT 6 rfl, s1, s2, s3, Sat.rowCs (Sat.al.mp h9), h.ne (i := 4) (j := 1) rfl rfl⟩
theorem MachV.ex {K : PySem.W.Frag} {m : Addr} {z : Szs} {M : M} {x : MX} {H H' : Hp} (h : MachV K H m z M x) (e : Ex H H') : MachV K H' m z M x :=
  ⟨e _ _ h.ins, e _ _ h.rows, e _ _ h.dirty, e _ _ h.counts, e _ _ h.szs, e _ _ h.pins, e _ _ h.tk, h.st.ex e, h.rs, h.ds, fun y hy => ⟨e _ _ (h.row y hy).1, e _ _ (h.row y hy).2⟩, h.ne⟩
section
variable {K : PySem.W.Frag} {M : M} {x : MX}
theorem mF_share : (mF K M x).lookup ("own_share" : Str) = some ((.int M.share) : V) := rfl
theorem mF_rule : (mF K M x).lookup ("own_rule" : Str) = some ((.ref (fR K M.rule)) : V) := rfl
theorem mF_sizes : (mF K M x).lookup ("own_sizes" : Str) = some ((.ref x.szs) : V) := rfl
theorem mF_ticks : (mF K M x).lookup ("own_ticks" : Str) = some ((.ref x.tk) : V) := rfl
theorem mF_rows : (mF K M x).lookup ("own_rows" : Str) = some ((.ref x.rows) : V) := rfl
theorem mF_dirty : (mF K M x).lookup ("own_dirty" : Str) = some ((.ref x.dirty) : V) := rfl
theorem mF_pins : (mF K M x).lookup ("own_pins" : Str) = some ((.ref x.pins) : V) := rfl
theorem mF_state : (mF K M x).lookup ("own_state" : Str) = some (x.sv : V) := rfl
theorem mF_counts : (mF K M x).lookup ("own_counts" : Str) = some ((.ref x.counts) : V) := rfl
theorem mF_moment : (mF K M x).lookup ("own_moment" : Str) = some ((.int M.moment) : V) := rfl
theorem mF_putM {n : Int} : putF "own_moment" (.int n) (mF K M x) = mF K { M with moment := n } x := rfl
theorem mF_putS {v : V} {st : RSt} : putF "own_state" v (mF K M x) = mF K { M with st := st } { x with sv := v } := rfl
end

section
variable {P : Program} {w : World} {K : PySem.W.Frag} {mg : Str → Option Value} {base : Heap}
theorem metsl_of {C m qual : Str} {st : Stmt} {f : Addr} {N ps : List Str} {k : Nat} {sp : Sp} (F : ∃ fd, FunD K m qual (defArgs st) (defBody st) (defScope st) [] [] f fd) (c : SlX.SCls K (He.ga K C)) (me : Meth K (He.ga K C) m f) (S : FnScope N ps (defScope st))
    (b : ∀ (kV doc pm : Value) (an : Option Addr) (cdv ct : Value) (us : List Value), us.length = ps.length → bindArgs (PySem.W.fnOf m qual (defArgs st) (defBody st) (defScope st) .none kV doc pm an cdv ct) ⟨us, []⟩ = pure (ps.zip us))
    (len : ∀ vs H Q E, sp vs H Q E → vs.length = ps.length)
    (hbody : ∀ (cdv : Value) (A : Around) (outer : List Env) (s : Shared) (H : Hp) (vs : List V) (Q : VK) (E : XK), Room k (A.deeper (envOfC qual (defScope st) s.heap.objs.size f cdv)) → sp vs H Q E →
      ∃ t, PSs (cxOf C8.CX0 P w K mg base N qual (defScope st) f cdv A outer s H E).nox (defBody st) t ∧ t { nx := fun _ H' => Q .non H', rt := Q } (start N vs) H) : MetSl P w K mg base (k + 1) (He.ga K C) m sp := by
  obtain ⟨fd, F⟩ := F
  refine ⟨f, fd, ps, c, me, F.ok S len (fun cdv A outer s H vs Q E hr h => ?_), F.bindsN b⟩
  obtain ⟨t, h1, h2⟩ := hbody cdv A outer s H vs Q E hr h
  exact ⟨t, h1.nox, h2⟩
end
section
variable {K : PySem.W.Frag} {σ : L2.St} {H : Hp} {ta tb te tv : TE} {D : Ends} {tz : TS} {y : V}
theorem slt_ex {H1 : Hp} {a C dx : Addr} {vs : List (Option V)} (e : Ex H H1) (h : SlX.Slt H a C dx vs) : SlX.Slt H1 a C dx vs := by
  rcases h with ⟨a, b⟩ | ⟨a, b⟩
  · exact .inl ⟨e _ _ a, b⟩
  · exact .inr ⟨e _ _ a, e _ _ b⟩
theorem q_sl {a C dx p : Addr} {vs : List (Option V)} {f : Str} {i : Nat} (hv : Ev tv σ H y) (ha : Ev ta σ H (.ref a)) (hs : SlX.Slt H a C dx vs) (c : SlX.SCls K C) (t : SlX.Slot1 K C f p i) (k : ∀ H1, Ex H H1 → tz D σ (SlX.slH H1 a C dx (SlX.putS i y vs))) : tSeq (SlX.sSl K ta tv f) tz D σ H :=
  hv H (Ex.refl _) _ fun H1 e1 => ha H1 e1 _ fun H2 e2 => ⟨a, C, dx, p, vs, i, rfl, slt_ex (e1.trans e2) hs, c, t, k H2 (e1.trans e2)⟩
theorem s_sl {a C dx p : Addr} {vs : List (Option V)} {f : Str} {i : Nat} (hv : Ev tv σ H y) (ha : Ev ta σ H (.ref a)) (hs : SlX.Slt H a C dx vs) (c : SlX.SCls K C) (t : SlX.Slot1 K C f p i) (k : ∀ H1, Ex H H1 → D.nx σ (SlX.slH H1 a C dx (SlX.putS i y vs))) : SlX.sSl K ta tv f D σ H :=
  hv H (Ex.refl _) _ fun H1 e1 => ha H1 e1 _ fun H2 e2 => ⟨a, C, dx, p, vs, i, rfl, slt_ex (e1.trans e2) hs, c, t, k H2 (e1.trans e2)⟩
theorem ev_sl {a C dx p : Addr} {vs : List (Option V)} {f : Str} {i : Nat} {v : V} (ha : Ev ta σ H (.ref a)) (hs : SlX.Slt H a C dx vs) (c : SlX.SCls K C) (t : SlX.Slot1 K C f p i) (hv : vs[i]? = some (some v)) : Ev (SlX.tSl K ta f) σ H v := fun H1 e Q q =>
  ha H1 e _ fun H2 e2 => ⟨a, C, dx, p, vs, i, v, rfl, slt_ex (e.trans e2) hs, c, t, hv, q H2 e2⟩
theorem Sat.slot {a C dx : Addr} {o o' : HO} {vs : List (Option V)} {R : List HP} (h : Sat H (pt a o :: pt dx o' :: R)) : Sat (SlX.slH H a C dx vs) (pt a (SlX.SlO a C dx vs) :: pt dx (.xd []) :: R) := (h.put 1 rfl).put 0 rfl
theorem Tu.slot {a C dx : Addr} {o o' : HO} {vs : List (Option V)} {R : List HP} (h : Sat H (pt a o :: pt dx o' :: R)) (n : ¬ isTup o) (n' : ¬ isTup o') : Tu H (SlX.slH H a C dx vs) :=
  (Tu.upd (h.get 1 rfl) n').trans (Tu.upd ((h.put (o' := .xd []) 1 rfl).get 0 rfl) n)
theorem q_fld {a C dx : Addr} {fs : List (Str × V)} {f : Str} (hv : Ev tv σ H y) (ha : Ev ta σ H (.ref a)) (ho : H a = some (.ins C dx fs)) (c : Cls K C) (n : NoAttr K C f) (hl : fs.length < 1000) (k : ∀ H1, Ex H H1 → tz D σ (upd H1 a (.ins C dx (putF f y fs)))) : tSeq (sFld K ta tv f) tz D σ H :=
  hv H (Ex.refl _) _ fun H1 e1 => ha H1 e1 _ fun H2 e2 => ⟨a, C, dx, fs, rfl, e2 _ _ (e1 _ _ ho), c, n, hl, k H2 (e1.trans e2)⟩
theorem s_fld {a C dx : Addr} {fs : List (Str × V)} {f : Str} (hv : Ev tv σ H y) (ha : Ev ta σ H (.ref a)) (ho : H a = some (.ins C dx fs)) (c : Cls K C) (n : NoAttr K C f) (hl : fs.length < 1000) (k : ∀ H1, Ex H H1 → D.nx σ (upd H1 a (.ins C dx (putF f y fs)))) : sFld K ta tv f D σ H :=
  hv H (Ex.refl _) _ fun H1 e1 => ha H1 e1 _ fun H2 e2 => ⟨a, C, dx, fs, rfl, e2 _ _ (e1 _ _ ho), c, n, hl, k H2 (e1.trans e2)⟩
end
theorem lt1000 {n : Nat} (h : Nat.ble (n + 1) 1000 = true := by rfl) : n < 1000 := Nat.le_of_ble_eq_true h
/-- a move -/
def moveF (hit kept : Bool) (o u : Addr) (s : Int) : List (Str × V) := [("own_hit", .bl hit), ("own_kept", .bl kept), ("own_out", .ref o), ("own_wrote", .ref u), ("own_served", .int s)]

section
variable {P : Program} {w : World} {K : PySem.W.Frag} {mg : Str → Option Value} {base : Heap}
abbrev n_Row_init : List Str := ["self", "since", "last", "uses", "start"]
theorem sc_Row_init : FnScope n_Row_init ["self", "since", "last", "uses", "start"] (defScope s_Row_init) := C8.fnScope_by (by decide +kernel)
def sp_Row_init (K : PySem.W.Frag) : Sp := fun vs H Q _ => ∃ (x dx : Addr) (r : RowD) (R : List HP), vs = [.ref x, .int r.since, .int r.last, .int r.uses, .int r.start] ∧ Sat H (pt x (.ins (He.ga K "Row") dx []) :: pt dx (.own x) :: R) ∧ ∀ H', Sat H' (pt x (RowO K x dx r) :: pt dx (.xd []) :: R) → Tu H H' → Q .non H'
theorem ok_Row_init  (T : Ctx K mg) : C8.Mak P w K mg base 1 "Row" (He.ga K "Row") (sp_Row_init K) [] := by
  refine mak_of T.f_Row_init (T.mks "Row" (by decide)) (T.glo _ (by decide)) (N := n_Row_init) sc_Row_init (fun _ _ _ _ _ _ us hl => match us, hl with | [_, _, _, _, _], _ => rfl) (fun vs H Q E h => ?len) (fun cdv A outer s H vs Q E hr h => ?body)
  case len =>
    obtain ⟨_, _, _, _, rfl, _⟩ := h
    rfl
  case body =>
    obtain ⟨x, dx, r, R, rfl, S, k⟩ := h
    refine ⟨_, (pss_cons (ps_slK (K := K) (pv 0) (pv 1)) (pss_cons (ps_slK (K := K) (pv 0) (pv 2)) (pss_cons (ps_slK (K := K) (pv 0) (pv 3)) (pss_one (ps_slK (K := K) (pv 0) (pv 4)))))), ?_⟩
    have nt : ∀ vs, ¬ isTup (SlX.SlO x (He.ga K "Row") dx vs) := fun _ z => z
    refine q_sl (ev_var rfl) (ev_var rfl) (.inl ⟨S.get 0 rfl, rfl⟩) T.rowC (T.rowS ("since", 1) (by decide)) fun H1 e1 => ?_
    have S1 := S.same e1
    have S2 := S1.slot (C := He.ga K "Row") (vs := SlX.putS 1 (.int r.since) [])
    have t2 := (Ex.tu e1).trans (Tu.slot (C := He.ga K "Row") (vs := SlX.putS 1 (.int r.since) []) S1 (fun z => z) (fun z => z))
    refine q_sl (ev_var rfl) (ev_var rfl) (.inr ⟨S2.get 0 rfl, S2.get 1 rfl⟩) T.rowC (T.rowS ("last", 0) (by decide)) fun H3 e3 => ?_
    have S3 := S2.same e3
    have S4 := S3.slot (C := He.ga K "Row") (vs := SlX.putS 0 (.int r.last) (SlX.putS 1 (.int r.since) []))
    have t4 := (t2.trans (Ex.tu e3)).trans (Tu.slot (C := He.ga K "Row") (vs := SlX.putS 0 (.int r.last) (SlX.putS 1 (.int r.since) [])) S3 (nt _) (fun z => z))
    refine q_sl (ev_var rfl) (ev_var rfl) (.inr ⟨S4.get 0 rfl, S4.get 1 rfl⟩) T.rowC (T.rowS ("uses", 3) (by decide)) fun H5 e5 => ?_
    have S5 := S4.same e5
    have S6 := S5.slot (C := He.ga K "Row") (vs := SlX.putS 3 (.int r.uses) (SlX.putS 0 (.int r.last) (SlX.putS 1 (.int r.since) [])))
    have t6 := (t4.trans (Ex.tu e5)).trans (Tu.slot (C := He.ga K "Row") (vs := SlX.putS 3 (.int r.uses) (SlX.putS 0 (.int r.last) (SlX.putS 1 (.int r.since) []))) S5 (nt _) (fun z => z))
    refine s_sl (ev_var rfl) (ev_var rfl) (.inr ⟨S6.get 0 rfl, S6.get 1 rfl⟩) T.rowC (T.rowS ("start", 2) (by decide)) fun H7 e7 => ?_
    have S7 := S6.same e7
    exact k _ S7.slot ((t6.trans (Ex.tu e7)).trans (Tu.slot S7 (nt _) (fun z => z)))
end
section
variable {P : Program} {w : World} {K : PySem.W.Frag} {mg : Str → Option Value} {base : Heap}
abbrev n_Row_use : List Str := ["self", "number"]
theorem sc_Row_use : FnScope n_Row_use ["self", "number"] (defScope s_Row_use) := C8.fnScope_by (by decide +kernel)
def sp_Row_use (K : PySem.W.Frag) : Sp := fun vs H Q _ => ∃ (x dx : Addr) (r : RowD) (n : Int) (R : List HP), vs = [.ref x, .int n] ∧ Sat H (pt x (RowO K x dx r) :: pt dx (.xd []) :: R) ∧ ∀ H', Sat H' (pt x (RowO K x dx { r with last := n, uses := r.uses + 1 }) :: pt dx (.xd []) :: R) → Tu H H' → Q .non H'
theorem ok_Row_use  (T : Ctx K mg) : MetSl P w K mg base 1 (He.ga K "Row") "use" (sp_Row_use K) := by
  refine metsl_of T.f_Row_use T.rowC (T.met ("Row", "use") (by decide)) (N := n_Row_use) sc_Row_use (fun _ _ _ _ _ _ us hl => match us, hl with | [_, _], _ => rfl) (fun vs H Q E h => ?len) (fun cdv A outer s H vs Q E hr h => ?body)
  case len =>
    obtain ⟨_, _, _, _, _, rfl, _⟩ := h
    rfl
  case body =>
    obtain ⟨x, dx, r, n, R, rfl, S, k⟩ := h
    refine ⟨_, (pss_cons (ps_slK (K := K) (pv 0) (pv 1)) (pss_one (ps_slK (K := K) (pv 0) (pe_op op_add (pe_slK (K := K) (pv 0)) pe_int)))), ?_⟩
    have nt : ∀ vs, ¬ isTup (SlX.SlO x (He.ga K "Row") dx vs) := fun _ z => z
    refine q_sl (ev_var rfl) (ev_var rfl) (.inr ⟨S.get 0 rfl, S.get 1 rfl⟩) T.rowC (T.rowS ("last", 0) (by decide)) fun H1 e1 => ?_
    have S1 := S.same e1
    have S2 := S1.slot (C := He.ga K "Row") (vs := SlX.putS 0 (.int n) [some (.int r.last), some (.int r.since), some (.int r.start), some (.int r.uses)])
    have t2 := (Ex.tu e1).trans (Tu.slot (C := He.ga K "Row") (vs := SlX.putS 0 (.int n) [some (.int r.last), some (.int r.since), some (.int r.start), some (.int r.uses)]) S1 (nt _) (fun z => z))
    refine s_sl (ev_op (ev_sl (ev_var rfl) (.inr ⟨S2.get 0 rfl, S2.get 1 rfl⟩) T.rowC (T.rowS ("uses", 3) (by decide)) rfl) ev_c rv_I0) (ev_var rfl) (.inr ⟨S2.get 0 rfl, S2.get 1 rfl⟩) T.rowC (T.rowS ("uses", 3) (by decide)) fun H3 e3 => ?_
    have S3 := S2.same e3
    exact k _ S3.slot ((t2.trans (Ex.tu e3)).trans (Tu.slot S3 (nt _) (fun z => z)))
end
section
variable {P : Program} {w : World} {K : PySem.W.Frag} {mg : Str → Option Value} {base : Heap}
abbrev n_Move_init : List Str := ["self", "hit", "kept", "out", "wrote", "served"]
theorem sc_Move_init : FnScope n_Move_init ["self", "hit", "kept", "out", "wrote", "served"] (defScope s_Move_init) := C8.fnScope_by (by decide +kernel)
def sp_Move_init (K : PySem.W.Frag) : Sp := fun vs H Q _ => ∃ (x dx o w : Addr) (hit kept : Bool) (s : Int) (out ws : List V) (R : List HP), vs = [.ref x, .bl hit, .bl kept, .ref o, .ref w, .int s] ∧ Sat H (pt x (.ins (He.ga K "Move") dx []) :: R) ∧ H o = some (.tup out) ∧ H w = some (.lst ws) ∧
  ∀ u H', Sat H' (pt x (.ins (He.ga K "Move") dx (moveF hit kept o u s)) :: R) → Tu H H' → Q .non H'
theorem ok_Move_init  (T : Ctx K mg) : C8.Mak P w K mg base 1 "Move" (He.ga K "Move") (sp_Move_init K) [] := by
  refine mak_of T.f_Move_init (T.mks "Move" (by decide)) (T.glo _ (by decide)) (N := n_Move_init) sc_Move_init (fun _ _ _ _ _ _ us hl => match us, hl with | [_, _, _, _, _, _], _ => rfl) (fun vs H Q E h => ?len) (fun cdv A outer s H vs Q E hr h => ?body)
  case len =>
    obtain ⟨_, _, _, _, _, _, _, _, _, _, rfl, _⟩ := h
    rfl
  case body =>
    obtain ⟨x, dx, o, w', hit, kept, s, out, ws, R, rfl, S, ho, hw, k⟩ := h
    refine ⟨_, (pss_cons (ps_fldK (K := K) (pv 0) (pv 1)) (pss_cons (ps_fldK (K := K) (pv 0) (pv 2)) (pss_cons (ps_fldK (K := K) (pv 0) (pe_callTy (call_tuple_ofK (K := K)) (by rfl) (T.free _ (by decide)) (by decide +kernel) (pa_cons (pv 3) pa_nil))) (pss_cons (ps_fldK (K := K) (pv 0) (pe_callTy (call_tuple_ofK (K := K)) (by rfl) (T.free _ (by decide)) (by decide +kernel) (pa_cons (pv 4) pa_nil))) (pss_one (ps_fldK (K := K) (pv 0) (pv 5))))))), ?_⟩
    have c := T.cls "Move" (by decide)
    refine q_fld (ev_var rfl) (ev_var rfl) (S.get 0 rfl) c (T.noat ("Move", "own_hit") (by decide)) lt1000 fun H1 e1 => ?_
    have S1 := (S.same e1).put (o' := .ins (He.ga K "Move") dx [("own_hit", .bl hit)]) 0 rfl
    have t1 := (Ex.tu e1).trans (Tu.upd (o' := .ins (He.ga K "Move") dx [("own_hit", .bl hit)]) ((S.same e1).get 0 rfl))
    have hw1 : (upd H1 x (.ins (He.ga K "Move") dx [("own_hit", .bl hit)])) w' = some (.lst ws) := by rw [upd_ne (ne_of (e1 _ _ hw) ((S.same e1).get 0 rfl) (by intro z; cases z))]; exact e1 _ _ hw
    refine q_fld (ev_var rfl) (ev_var rfl) (S1.get 0 rfl) c (T.noat ("Move", "own_kept") (by decide)) lt1000 fun H2 e2 => ?_
    have S2 := (S1.same e2).put (o' := .ins (He.ga K "Move") dx [("own_hit", .bl hit), ("own_kept", .bl kept)]) 0 rfl
    have t2 := (t1.trans (Ex.tu e2)).trans (Tu.upd (o' := .ins (He.ga K "Move") dx [("own_hit", .bl hit), ("own_kept", .bl kept)]) ((S1.same e2).get 0 rfl))
    have hw2 : (upd H2 x (.ins (He.ga K "Move") dx [("own_hit", .bl hit), ("own_kept", .bl kept)])) w' = some (.lst ws) := by rw [upd_ne (ne_of (e2 _ _ hw1) ((S1.same e2).get 0 rfl) (by intro z; cases z))]; exact e2 _ _ hw1
    refine q_fld (y := .ref o) (fun H3 e3 Q3 q3 => ?_) (ev_var rfl) (S2.get 0 rfl) c (T.noat ("Move", "own_out") (by decide)) lt1000 fun H3 e3 => ?_
    · exact ⟨_, rfl, o, out, rfl, .inr ⟨st_of (e3 _ _ (t2 _ _ ho)), q3 H3 (Ex.refl _)⟩⟩
    have S3 := (S2.same e3).put (o' := .ins (He.ga K "Move") dx [("own_hit", .bl hit), ("own_kept", .bl kept), ("own_out", .ref o)]) 0 rfl
    have t3 := (t2.trans (Ex.tu e3)).trans (Tu.upd (o' := .ins (He.ga K "Move") dx [("own_hit", .bl hit), ("own_kept", .bl kept), ("own_out", .ref o)]) ((S2.same e3).get 0 rfl))
    have hw3 : (upd H3 x (.ins (He.ga K "Move") dx [("own_hit", .bl hit), ("own_kept", .bl kept), ("own_out", .ref o)])) w' = some (.lst ws) := by rw [upd_ne (ne_of (e3 _ _ hw2) ((S2.same e3).get 0 rfl) (by intro z; cases z))]; exact e3 _ _ hw2
    refine ⟨_, rfl, w', ws, rfl, .inl ⟨sq_of hw3, fun u hu => ⟨_, rfl, x, He.ga K "Move", dx, _, rfl, Ex.new hu _ _ (S3.get 0 rfl), c, T.noat ("Move", "own_wrote") (by decide), lt1000, ?_⟩⟩⟩
    have S4 := (S3.same (Ex.new (o := .tup ws) hu)).put (o' := .ins (He.ga K "Move") dx [("own_hit", .bl hit), ("own_kept", .bl kept), ("own_out", .ref o), ("own_wrote", .ref u)]) 0 rfl
    have t4 := (t3.trans (Tu.new (o := .tup ws) hu)).trans (Tu.upd (o' := .ins (He.ga K "Move") dx [("own_hit", .bl hit), ("own_kept", .bl kept), ("own_out", .ref o), ("own_wrote", .ref u)]) ((S3.same (Ex.new (o := .tup ws) hu)).get 0 rfl))
    refine s_fld (ev_var rfl) (ev_var rfl) (S4.get 0 rfl) c (T.noat ("Move", "own_served") (by decide)) lt1000 fun H5 e5 => ?_
    exact k u _ ((S4.same e5).put 0 rfl) ((t4.trans (Ex.tu e5)).trans (Tu.upd ((S4.same e5).get 0 rfl)))
end
section
variable {P : Program} {w : World} {K : PySem.W.Frag} {mg : Str → Option Value} {base : Heap}
abbrev n_Move_hit : List Str := ["self"]
theorem sc_Move_hit : FnScope n_Move_hit ["self"] (defScope s_Move_hit) := C8.fnScope_by (by decide +kernel)
def sp_Move_hit (K : PySem.W.Frag) : Sp := fun vs H Q _ => ∃ (x dx o u : Addr) (hit kept : Bool) (s : Int), vs = [.ref x] ∧ H x = some (.ins (He.ga K "Move") dx (moveF hit kept o u s)) ∧ RetV (.bl hit) H Q
theorem ok_Move_hit  (T : Ctx K mg) : Prp P w K mg base 1 (He.ga K "Move") "hit" (sp_Move_hit K) := by
  refine prp_of T.f_Move_hit (T.cls _ (by decide)) (T.prop ("Move", "hit") (by decide)) (N := n_Move_hit) sc_Move_hit (fun _ _ _ _ _ _ us hl => match us, hl with | [_], _ => rfl) (fun vs H Q E h => ?len) (fun cdv A outer s H vs Q E hr h => ?body)
  case len =>
    obtain ⟨_, _, _, _, _, _, _, rfl, _⟩ := h
    rfl
  case body =>
    obtain ⟨x, dx, o, u, hit, kept, s, rfl, h, k⟩ := h
    refine ⟨_, (pss_one (ps_ret (pe_fldK (K := K) (pv 0)))), ?_⟩
    exact s_ret (ev_fld (ev_var rfl) h (T.cls "Move" (by decide)) (T.noat ("Move", "own_hit") (by decide)) rfl) k
end
section
variable {P : Program} {w : World} {K : PySem.W.Frag} {mg : Str → Option Value} {base : Heap}
abbrev n_Move_kept : List Str := ["self"]
theorem sc_Move_kept : FnScope n_Move_kept ["self"] (defScope s_Move_kept) := C8.fnScope_by (by decide +kernel)
def sp_Move_kept (K : PySem.W.Frag) : Sp := fun vs H Q _ => ∃ (x dx o u : Addr) (hit kept : Bool) (s : Int), vs = [.ref x] ∧ H x = some (.ins (He.ga K "Move") dx (moveF hit kept o u s)) ∧ RetV (.bl kept) H Q
theorem ok_Move_kept  (T : Ctx K mg) : Prp P w K mg base 1 (He.ga K "Move") "kept" (sp_Move_kept K) := by
  refine prp_of T.f_Move_kept (T.cls _ (by decide)) (T.prop ("Move", "kept") (by decide)) (N := n_Move_kept) sc_Move_kept (fun _ _ _ _ _ _ us hl => match us, hl with | [_], _ => rfl) (fun vs H Q E h => ?len) (fun cdv A outer s H vs Q E hr h => ?body)
  case len =>
    obtain ⟨_, _, _, _, _, _, _, rfl, _⟩ := h
    rfl
  case body =>
    obtain ⟨x, dx, o, u, hit, kept, s, rfl, h, k⟩ := h
    refine ⟨_, (pss_one (ps_ret (pe_fldK (K := K) (pv 0)))), ?_⟩
    exact s_ret (ev_fld (ev_var rfl) h (T.cls "Move" (by decide)) (T.noat ("Move", "own_kept") (by decide)) rfl) k
end
section
variable {P : Program} {w : World} {K : PySem.W.Frag} {mg : Str → Option Value} {base : Heap}
abbrev n_Move_out : List Str := ["self"]
theorem sc_Move_out : FnScope n_Move_out ["self"] (defScope s_Move_out) := C8.fnScope_by (by decide +kernel)
def sp_Move_out (K : PySem.W.Frag) : Sp := fun vs H Q _ => ∃ (x dx o u : Addr) (hit kept : Bool) (s : Int), vs = [.ref x] ∧ H x = some (.ins (He.ga K "Move") dx (moveF hit kept o u s)) ∧ RetV (.ref o) H Q
theorem ok_Move_out  (T : Ctx K mg) : Prp P w K mg base 1 (He.ga K "Move") "out" (sp_Move_out K) := by
  refine prp_of T.f_Move_out (T.cls _ (by decide)) (T.prop ("Move", "out") (by decide)) (N := n_Move_out) sc_Move_out (fun _ _ _ _ _ _ us hl => match us, hl with | [_], _ => rfl) (fun vs H Q E h => ?len) (fun cdv A outer s H vs Q E hr h => ?body)
  case len =>
    obtain ⟨_, _, _, _, _, _, _, rfl, _⟩ := h
    rfl
  case body =>
    obtain ⟨x, dx, o, u, hit, kept, s, rfl, h, k⟩ := h
    refine ⟨_, (pss_one (ps_ret (pe_fldK (K := K) (pv 0)))), ?_⟩
    exact s_ret (ev_fld (ev_var rfl) h (T.cls "Move" (by decide)) (T.noat ("Move", "own_out") (by decide)) rfl) k
end
end N32
set_option Elab.async false
set_option linter.all false
set_option maxRecDepth 100000
set_option maxHeartbeats 4000000

namespace N32
open PySem PySem.Spec PyProof.Rows L2 Evl
section
variable {K : PySem.W.Frag} {σ : L2.St} {H : Hp} {m : Addr} {z : Szs} {M : M} {x : MX}
/-- a machine's parts while its rows are walked -/
structure MachL (K : PySem.W.Frag) (H : Hp) (m : Addr) (z : Szs) (M : N32.M) (x : MX) (od : Obj) : Prop where
  ins : H m = some (.ins (He.ga K "Alone") x.dx (mF K M x))
  rows : H x.rows = some (.frz od (.dK (rowK x.rs)))
  szs : H x.szs = some (.dK (szK z))
  row : ∀ y ∈ x.rs, H y.p = some (RowO K y.p y.dx y.r) ∧ H y.dx = some (.xd [])
theorem MachL.ex {od : Obj} {H' : Hp} (h : MachL K H m z M x od) (e : Ex H H') : MachL K H' m z M x od := ⟨e _ _ h.ins, e _ _ h.rows, e _ _ h.szs, fun y hy => ⟨e _ _ (h.row y hy).1, e _ _ (h.row y hy).2⟩⟩
theorem MachV.lock (h : MachV K H m z M x) (od : Obj) : MachL K (upd H x.rows (.frz od (.dK (rowK x.rs)))) m z M x od :=
  ⟨by rw [upd_ne (ne_of h.ins h.rows (by intro z; cases z))]; exact h.ins, upd_same, by rw [upd_ne h.ne]; exact h.szs,
    fun y hy => ⟨by rw [upd_ne (ne_of (h.row y hy).1 h.rows (by intro z; cases z))]; exact (h.row y hy).1, by rw [upd_ne (ne_of (h.row y hy).2 h.rows (by intro z; cases z))]; exact (h.row y hy).2⟩⟩
theorem rowK_len (rs : List RowX) : (rowK rs).length = rs.length := List.length_map _
def rowXD : RowX := ⟨0, 0, ⟨"", 0, 0, 0, 0⟩⟩
theorem rowK_get {rs : List RowX} {i : Nat} {k : Key} {v : V} (h : (rowK rs)[i]? = some (k, v)) : ∃ y, rs[i]? = some y ∧ k = .inr y.r.pg ∧ v = .ref y.p := by
  unfold rowK at h
  rw [List.getElem?_map] at h
  obtain ⟨y, hy, e⟩ := Option.map_eq_some_iff.mp h
  cases e
  exact ⟨y, hy, rfl, rfl⟩
theorem rows_len (h : MachV K H m z M x) : x.rs.length = M.rows.length := by rw [← h.rs, List.length_map]
theorem rowK_some {rs : List RowX} {p : Str} : (valV (rowK rs) (.inr p)).isSome = decide (p ∈ (rs.map (·.r)).map (·.pg)) := by
  induction rs with
  | nil => rfl
  | cons y rs ih =>
    show (valV ((.inr y.r.pg, V.ref y.p) :: rowK rs) (.inr p)).isSome = _
    by_cases e : y.r.pg = p
    · rw [valV_pos (by rw [e])]
      simp [e]
    · rw [valV_neg (fun z => e (Sum.inr.inj z)), ih]
      have e2 : ¬ p = y.r.pg := fun z => e z.symm
      simp [e2]
/-- a new list of entries -/
def RetE (es : List Ent) (H : Hp) (Q : VK) : Prop := ∀ p xs H', H p = none → Ex H H' → H' p = some (.lst xs) → EntL H' xs es → Q (.ref p) H'
theorem EntL.nil : EntL H [] [] := ⟨rfl, fun i x e h => by simp at h⟩
theorem EntL.snoc {xs : List V} {es : List Ent} {v : V} {e : Ent} (E : EntL H xs es) (h : EntV H v e) : EntL H (xs ++ [v]) (es ++ [e]) := E.append ⟨rfl, fun i x y h1 h2 => by
  cases i with
  | zero => cases h1; cases h2; exact h
  | succ i => simp at h1⟩
theorem EntL.tu {H' : Hp} {xs : List V} {es : List Ent} (E : EntL H xs es) (e : Tu H H') : EntL H' xs es :=
  ⟨E.len, fun i x y h1 h2 => let ⟨t, a, b⟩ := E.at_ i x y h1 h2; ⟨t, a, e _ _ b⟩⟩
end

section
variable {P : Program} {w : World} {K : PySem.W.Frag} {mg : Str → Option Value} {base : Heap}
abbrev n_Alone_used : List Str := ["self", "page"]
theorem sc_Alone_used : FnScope n_Alone_used ["self"] (defScope s_Alone_used) := C8.fnScope_by (by decide +kernel)
def sp_Alone_used (K : PySem.W.Frag) : Sp := fun vs H Q _ => ∃ (m : Addr) (z : Szs) (M : M) (x : MX), vs = [.ref m] ∧ MachV K H m z M x ∧ M.rows.length ≤ 100 ∧ RetV (.int (M.used z)) H Q
theorem ok_Alone_used  (T : Ctx K mg) : Prp P w K mg base 2 (He.ga K "Alone") "used" (sp_Alone_used K) := by
  refine prp_of T.f_Alone_used (T.cls _ (by decide)) (T.prop ("Alone", "used") (by decide)) (N := n_Alone_used) sc_Alone_used (fun _ _ _ _ _ _ us hl => match us, hl with | [_], _ => rfl) (fun vs H Q E h => ?len) (fun cdv A outer s H vs Q E hr h => ?body)
  case len =>
    obtain ⟨_, _, _, _, rfl, _⟩ := h
    rfl
  case body =>
    obtain ⟨m, z, M, x, rfl, h, hn, k⟩ := h
    refine ⟨_, (pss_one (ps_ret (pe_callB (cr_sumK (K := K) rfl) (by rfl) (T.free _ (by decide)) (by decide +kernel) (pa_cons (pe_lock (pe_lc (own := [("page", 1)]) (by rfl) sc_Alone_used.nd (pi_keys (pe_fldK (K := K) (pv 0))) (blkOk_by (own := [("page", 1)]) (N := n_Alone_used) (sc := defScope s_Alone_used) (by decide +kernel)) (fun _ _ _ _ _ => pg_name (i := 1) sc_Alone_used.nd rfl (Or.inl rfl)) (fun _ _ _ _ _ => by exact pts_nil) (fun _ _ _ _ _ => by exact (C8.pe_c (ok_size_in T) hr (by decide) (by rfl) (pa_cons (pe_fldK (K := K) (pv 0)) (pa_cons (pv 1) pa_nil)))))) pa_nil)))), ?_⟩
    have c := T.cls "Alone" (by decide)
    have hl := rows_len h
    refine s_ret (ev_is (ev_sum (ns := M.rows.map fun r : RowD => szOf z r.pg) (el_lock h.rows trivial fun H1 od e1 => ?_)) rfl) k
    have L := (h.ex e1).lock od
    generalize upd H1 x.rows (.frz od (.dK (rowK x.rs))) = H2 at L
    have e : (M.rows.map fun r : RowD => szOf z r.pg).map V.int = given (rowK x.rs).length (fun _ => true) (fun i => V.int (szOf z (x.rs.getD i rowXD).r.pg)) := by
      rw [given_all, rowK_len, range_map_get x.rs rowXD (fun y => V.int (szOf z y.r.pg)), ← h.rs, List.map_map, List.map_map]
      rfl
    rw [e]
    refine el_lcW _ _ (wi_keys (ev_fld (ev_var rfl) L.ins c (T.noat ("Alone", "own_rows") (by decide)) mF_rows) L.rows) walk_keys (by rw [rowK_len]; omega) (fun H3 e3 => e3 _ _ L.rows) fun i H3 v H4 hi e3 y R hR => ?_
    obtain ⟨rfl, kk, vv, h1, rfl⟩ := y
    obtain ⟨y, hy, rfl, rfl⟩ := rowK_get h1
    have hg : x.rs.getD i rowXD = y := by rw [List.getD, hy]; rfl
    rw [hg] at hR
    exact hR _ _ (Ex.refl _) rfl et_yes fun _ => ev_callV (ea_cons (ev_fld (ev_var rfl) (e3 _ _ L.ins) c (T.noat ("Alone", "own_sizes") (by decide)) mF_sizes) (ea_cons (ev_var rfl) ea_nil)) fun H5 e5 Q q => ⟨x.szs, z, y.r.pg, rfl, e5 _ _ (e3 _ _ L.szs), q⟩
end
section
variable {P : Program} {w : World} {K : PySem.W.Frag} {mg : Str → Option Value} {base : Heap}
abbrev n_Alone_entries : List Str := ["self", "found", "page", "row"]
theorem sc_Alone_entries : FnScope n_Alone_entries ["self"] (defScope s_Alone_entries) := C8.fnScope_by (by decide +kernel)
def sp_Alone_entries (K : PySem.W.Frag) : Sp := fun vs H Q _ => ∃ (m : Addr) (z : Szs) (M : M) (x : MX), vs = [.ref m] ∧ MachV K H m z M x ∧ M.rows.length ≤ 100 ∧ RetE (M.ents z) H Q
theorem ok_Alone_entries  (T : Ctx K mg) : C8.Met P w K mg base 2 (He.ga K "Alone") "entries" (sp_Alone_entries K) [] := by
  refine met_of T.f_Alone_entries (T.cls _ (by decide)) (T.met ("Alone", "entries") (by decide)) (N := n_Alone_entries) sc_Alone_entries (fun _ _ _ _ _ _ us hl => match us, hl with | [_], _ => rfl) (fun vs H Q E h => ?len) (fun cdv A outer s H vs Q E hr h => ?body)
  case len =>
    obtain ⟨_, _, _, _, rfl, _⟩ := h
    rfl
  case body =>
    obtain ⟨m, z, M, x, rfl, h, hn, k⟩ := h
    refine ⟨_, (pss_cons (ps_set (i := 1) sc_Alone_entries.nd rfl (Or.inl rfl) (pe_lst pa_nil)) (pss_cons (ps_lock (ps_for PassesOwn.never (by rfl) (pi_items (pe_fldK (K := K) (pv 0))) (pg_tupK (K := K) (n := 2) (by rfl) (pgs_cons (pg_name (i := 2) sc_Alone_entries.nd rfl (Or.inl rfl)) (pgs_cons (pg_name (i := 3) sc_Alone_entries.nd rfl (Or.inl rfl)) pgs_nil))) (pss_one (ps_expr (pe_bmK (K := K) PySem.F.plainAttrs_list PySem.F.slot_list_append PySem.F.type_list_append mt_append (pv 1) (pa_cons (pe_tup (pa_cons (pv 2) (pa_cons (C8.pe_c (ok_size_in T) hr (by decide) (by rfl) (pa_cons (pe_fldK (K := K) (pv 0)) (pa_cons (pv 2) pa_nil))) (pa_cons (pe_slK (K := K) (pv 3)) (pa_cons (pe_slK (K := K) (pv 3)) (pa_cons (pe_slK (K := K) (pv 3)) pa_nil)))))) pa_nil)))))) (pss_one (ps_ret (pv 1))))), ?_⟩
    have c := T.cls "Alone" (by decide)
    have hl := rows_len h
    refine ⟨Nat.zero_le _, fun f hf => ?_⟩
    have h1 := h.ex (Ex.new (o := .lst []) hf)
    have hfx : f ≠ x.rows := fun z => by rw [z, h.rows] at hf; cases hf
    refine ⟨x.rows, _, h1.rows, trivial, fun od => ?_⟩
    have L := h1.lock od
    have hfl : (upd (upd H f (.lst [])) x.rows (.frz od (.dK (rowK x.rs)))) f = some (.lst []) := by rw [upd_ne hfx, upd_same]
    refine ⟨_, rfl, m, _, x.dx, _, .ref x.rows, rfl, L.ins, c, T.noat ("Alone", "own_rows") (by decide), mF_rows, x.rows, od, rowK x.rs, rfl, L.rows, ?_⟩
    have e02 : Ex H (upd (upd (upd H f (.lst [])) x.rows (.frz od (.dK (rowK x.rs)))) x.rows (.dK (rowK x.rs))) := fun a o ha => by
      have q := lock_ex (d := x.rows) (od := od) h1.rows (Ex.refl _)
      exact q _ _ (Ex.new (o := .lst []) hf _ _ ha)
    generalize upd (upd H f (.lst [])) x.rows (.frz od (.dK (rowK x.rs))) = H2 at L hfl e02 ⊢
    refine for_it walk_items (fun i σ' H' => MachL K H' m z M x od ∧ Ex H (upd H' x.rows (.dK (rowK x.rs))) ∧ ∃ (xs : List V) (a b : Option V), σ' = [some (.ref m), some (.ref f), a, b] ∧ H' f = some (.lst xs) ∧ EntL H' xs ((x.rs.take i).map fun y => y.r.ent z))
      ⟨L, e02, [], _, _, rfl, hfl, EntL.nil⟩ (fun i σ' H' _ p => p.1.rows) ?_ ?_
    · rintro i w σ' H' H3 hi ⟨p1, p2, xs, a, b, rfl, p3, p4⟩ ⟨t, kx, vx, rfl, ht, rfl, h1', h2'⟩
      dsimp only at h1' h2'
      obtain ⟨⟨kk, vv⟩, hkv, rfl⟩ := Option.map_eq_some_iff.mp h1'
      rw [hkv] at h2'
      cases h2'
      obtain ⟨y, hy, rfl, rfl⟩ := rowK_get hkv
      have hi2 : i < x.rs.length := (List.getElem?_eq_some_iff.mp hy).1
      have htk : (x.rs.take (i + 1)).map (fun y => y.r.ent z) = (x.rs.take i).map (fun y => y.r.ent z) ++ [y.r.ent z] := by
        rw [List.take_add_one, hy, List.map_append]
        rfl
      have eT : Ex H' (upd H' t (.tup [.str y.r.pg, .ref y.p])) := Ex.new ht
      have L3 := p1.ex eT
      have hm := L3.row y (List.mem_of_getElem? hy)
      have hxs : xs.length = i := by rw [p4.len, List.length_map, List.length_take]; omega
      refine ⟨t, _, rfl, st_of upd_same, rfl, _, _, rfl, _, _, rfl, rfl, ?_⟩
      refine s_appU (xs := xs) (ys := (y.r.ent z).vs) (eT _ _ p3) (ev_var rfl) (eu_tup (ea_cons (ev_var rfl) (ea_cons (ev_callV (ea_cons (ev_fld (ev_var rfl) L3.ins c (T.noat ("Alone", "own_sizes") (by decide)) mF_sizes) (ea_cons (ev_var rfl) ea_nil)) fun H5 e5 Q q => ⟨x.szs, z, y.r.pg, rfl, e5 _ _ L3.szs, q⟩)
        (ea_cons (ev_sl (ev_var rfl) (.inr hm) T.rowC (T.rowS ("since", 1) (by decide)) rfl) (ea_cons (ev_sl (ev_var rfl) (.inr hm) T.rowC (T.rowS ("last", 0) (by decide)) rfl) (ea_cons (ev_sl (ev_var rfl) (.inr hm) T.rowC (T.rowS ("uses", 3) (by decide)) rfl) ea_nil))))) (by show 5 ≤ 100000; decide)) (by omega) fun p H4 hp e4 h4 => ?_
      have hf4 := e4 _ _ (eT _ _ p3)
      have L4 := L3.ex e4
      refine ⟨⟨?_, ?_, ?_, ?_⟩, ?_, xs ++ [.ref p], _, _, rfl, upd_same, ?_⟩
      · rw [upd_ne (ne_of L4.ins hf4 (by intro z; cases z))]; exact L4.ins
      · rw [upd_ne hfx.symm]; exact L4.rows
      · rw [upd_ne (ne_of L4.szs hf4 (by intro z; cases z))]; exact L4.szs
      · exact fun y hy => ⟨by rw [upd_ne (ne_of (L4.row y hy).1 hf4 (by intro z; cases z))]; exact (L4.row y hy).1, by rw [upd_ne (ne_of (L4.row y hy).2 hf4 (by intro z; cases z))]; exact (L4.row y hy).2⟩
      · intro a o ha
        have q := p2 a o ha
        by_cases hax : a = x.rows
        · subst hax
          rw [upd_same] at q ⊢
          exact q
        · rw [upd_ne hax] at q ⊢
          have haf : a ≠ f := fun z => by rw [z, hf] at ha; cases ha
          rw [upd_ne haf]
          exact e4 _ _ (eT _ _ q)
      · have tu : Tu H' (upd H4 f (.lst (xs ++ [.ref p]))) := (Ex.tu (eT.trans e4)).trans (Tu.upd hf4)
        rw [htk]
        refine (p4.tu tu).snoc ⟨p, rfl, ?_⟩
        rw [upd_ne (ne_of h4 hf4 (by intro z; cases z))]
        exact h4
    · rintro σ' H' ⟨p1, p2, xs, a, b, rfl, p3, p4⟩
      refine ⟨p1.rows, _, rfl, k f xs _ hf p2 (by rw [upd_ne hfx]; exact p3) ?_⟩
      have he : (x.rs.take (rowK x.rs).length).map (fun y => y.r.ent z) = M.ents z := by
        rw [rowK_len, List.take_length]
        show _ = List.map _ M.rows
        rw [← h.rs, List.map_map]
        rfl
      rw [he] at p4
      exact p4.tu (Tu.upd p1.rows)
end
section
variable {P : Program} {w : World} {K : PySem.W.Frag} {mg : Str → Option Value} {base : Heap}
abbrev n_Alone_pinned : List Str := ["self", "pin"]
theorem sc_Alone_pinned : FnScope n_Alone_pinned ["self"] (defScope s_Alone_pinned) := C8.fnScope_by (by decide +kernel)
def sp_Alone_pinned (K : PySem.W.Frag) : Sp := fun vs H Q _ => ∃ (m : Addr) (z : Szs) (M : M) (x : MX), vs = [.ref m] ∧ MachV K H m z M x ∧ RetL [] H Q
theorem ok_Alone_pinned  (T : Ctx K mg) : C8.Met P w K mg base 1 (He.ga K "Alone") "pinned" (sp_Alone_pinned K) [] := by
  refine met_of T.f_Alone_pinned (T.cls _ (by decide)) (T.met ("Alone", "pinned") (by decide)) (N := n_Alone_pinned) sc_Alone_pinned (fun _ _ _ _ _ _ us hl => match us, hl with | [_], _ => rfl) (fun vs H Q E h => ?len) (fun cdv A outer s H vs Q E hr h => ?body)
  case len =>
    obtain ⟨_, _, _, _, rfl, _⟩ := h
    rfl
  case body =>
    obtain ⟨m, z, M, x, rfl, h, k⟩ := h
    refine ⟨_, (pss_one (ps_ret (pe_callB (cr_sortedSetS rfl) (by rfl) (T.free _ (by decide)) (by decide +kernel) (pa_cons (pe_scS (own := [("pin", 1)]) (by rfl) sc_Alone_pinned.nd (pi_listK (K := K) (pe_fldK (K := K) (pv 0))) (blkOk_by (own := [("pin", 1)]) (N := n_Alone_pinned) (sc := defScope s_Alone_pinned) (by decide +kernel)) (fun _ _ _ _ _ => pg_name (i := 1) sc_Alone_pinned.nd rfl (Or.inl rfl)) (fun _ _ _ _ _ => by exact (pts_one (pt_val (pe_fldK (K := K) (pv 1))))) (fun _ _ _ _ _ => by exact (pe_fldK (K := K) (pv 1)))) pa_nil)))), ?_⟩
    have c := T.cls "Alone" (by decide)
    refine ⟨_, rfl, m, _, x.dx, _, .ref x.pins, rfl, h.ins, c, T.noat ("Alone", "own_pins") (by decide), mF_pins, x.pins, rfl, ⟨[], sq_of h.pins⟩, fun D hD => ⟨fun i n H3 => i = 0 ∧ n = 0 ∧ H3 = upd H D (SetS P w D []), ⟨0, rfl, rfl, rfl⟩, ?_⟩⟩
    rintro i n H3 ⟨rfl, rfl, rfl⟩
    refine .inl ⟨⟨[], sq_of (Ex.new hD _ _ h.pins), Nat.zero_le _⟩, D, [], rfl, upd_same, fun ys p hys hyl hp => ?_⟩
    have : ys = [] := List.length_eq_zero_iff.mp hyl
    subst this
    have e3 : Ex H (upd H D (SetS P w D [])) := Ex.new hD
    exact k p _ (fresh_back e3 hp) (e3.trans (Ex.new hp)) upd_same
end
section
variable {P : Program} {w : World} {K : PySem.W.Frag} {mg : Str → Option Value} {base : Heap}
abbrev n_Alone_pinned_size : List Str := ["self", "page"]
theorem sc_Alone_pinned_size : FnScope n_Alone_pinned_size ["self"] (defScope s_Alone_pinned_size) := C8.fnScope_by (by decide +kernel)
def sp_Alone_pinned_size (K : PySem.W.Frag) : Sp := fun vs H Q _ => ∃ (m : Addr) (z : Szs) (M : M) (x : MX), vs = [.ref m] ∧ MachV K H m z M x ∧ RetV (.int 0) H Q
theorem ok_Alone_pinned_size  (T : Ctx K mg) : C8.Met P w K mg base 2 (He.ga K "Alone") "pinned_size" (sp_Alone_pinned_size K) [] := by
  refine met_of T.f_Alone_pinned_size (T.cls _ (by decide)) (T.met ("Alone", "pinned_size") (by decide)) (N := n_Alone_pinned_size) sc_Alone_pinned_size (fun _ _ _ _ _ _ us hl => match us, hl with | [_], _ => rfl) (fun vs H Q E h => ?len) (fun cdv A outer s H vs Q E hr h => ?body)
  case len =>
    obtain ⟨_, _, _, _, rfl, _⟩ := h
    rfl
  case body =>
    obtain ⟨m, z, M, x, rfl, h, k⟩ := h
    refine ⟨_, (pss_one (ps_ret (pe_callB (cr_sumK (K := K) rfl) (by rfl) (T.free _ (by decide)) (by decide +kernel) (pa_cons (pe_lc (own := [("page", 1)]) (by rfl) sc_Alone_pinned_size.nd (pi_listK (K := K) (C8.pe_mt0 (ok_Alone_pinned T) hr (by decide) (pv 0))) (blkOk_by (own := [("page", 1)]) (N := n_Alone_pinned_size) (sc := defScope s_Alone_pinned_size) (by decide +kernel)) (fun _ _ _ _ _ => pg_name (i := 1) sc_Alone_pinned_size.nd rfl (Or.inl rfl)) (fun _ _ _ _ _ => by exact pts_nil) (fun _ _ _ _ _ => by exact (C8.pe_c (ok_size_in T) hr (by decide) (by rfl) (pa_cons (pe_fldK (K := K) (pv 0)) (pa_cons (pv 1) pa_nil))))) pa_nil)))), ?_⟩
    refine s_ret (ev_is (ev_sum (ns := []) ?_) rfl) k
    refine fun H1 e1 Q1 q1 => ⟨_, rfl, m, x.dx, _, rfl, e1 _ _ h.ins, rfl, m, z, M, x, rfl, h.ex e1, fun p H2 hp e2 h2 => ⟨p, rfl, ⟨[], sq_of h2⟩, fun D hD => ⟨fun i n H => i = 0 ∧ n = 0 ∧ H = upd H2 D (.lst []), ⟨0, rfl, rfl, rfl⟩, ?_⟩⟩⟩
    rintro i n H3 ⟨rfl, rfl, rfl⟩
    exact .inl ⟨⟨[], sq_of (Ex.new hD _ _ h2), Nat.zero_le _⟩, q1 D _ (fresh_back e2 hD) (e2.trans (Ex.new hD)) upd_same⟩
end
section
variable {P : Program} {w : World} {K : PySem.W.Frag} {mg : Str → Option Value} {base : Heap}
abbrev n_Alone_free_entries : List Str := ["self", "fast", "entry"]
theorem sc_Alone_free_entries : FnScope n_Alone_free_entries ["self"] (defScope s_Alone_free_entries) := C8.fnScope_by (by decide +kernel)
def sp_Alone_free_entries (K : PySem.W.Frag) : Sp := fun vs H Q _ => ∃ (m : Addr) (z : Szs) (M : M) (x : MX), vs = [.ref m] ∧ MachV K H m z M x ∧ M.rows.length ≤ 100 ∧ RetE (M.ents z) H Q
theorem ok_Alone_free_entries  (T : Ctx K mg) : C8.Met P w K mg base 3 (He.ga K "Alone") "free_entries" (sp_Alone_free_entries K) [] := by
  refine met_of T.f_Alone_free_entries (T.cls _ (by decide)) (T.met ("Alone", "free_entries") (by decide)) (N := n_Alone_free_entries) sc_Alone_free_entries (fun _ _ _ _ _ _ us hl => match us, hl with | [_], _ => rfl) (fun vs H Q E h => ?len) (fun cdv A outer s H vs Q E hr h => ?body)
  case len =>
    obtain ⟨_, _, _, _, rfl, _⟩ := h
    rfl
  case body =>
    obtain ⟨m, z, M, x, rfl, h, hn, k⟩ := h
    refine ⟨_, (pss_cons (ps_set (i := 1) sc_Alone_free_entries.nd rfl (Or.inr rfl) (C8.pe_mt0 (ok_Alone_pinned T) hr (by decide) (pv 0))) (pss_one (ps_ret (pe_lc (own := [("entry", 2)]) (by rfl) sc_Alone_free_entries.nd (pi_listK (K := K) (C8.pe_mt0 (ok_Alone_entries T) hr (by decide) (pv 0))) (blkOk_by (own := [("entry", 2)]) (N := n_Alone_free_entries) (sc := defScope s_Alone_free_entries) (by decide +kernel)) (fun _ _ _ _ _ => pg_name (i := 2) sc_Alone_free_entries.nd rfl (Or.inl rfl)) (fun _ _ _ _ _ => by exact (pts_one (pt_cmpR (op_notIn_seqK (K := K)) (pe_ix (ix_tupK (K := K)) (pv 2) pe_int (fun _ _ => rfl)) (pv 1) (by rfl)))) (fun _ _ _ _ _ => by exact (pv 2)))))), ?_⟩
    refine q_asgD ?_
    refine ⟨_, rfl, m, x.dx, _, rfl, h.ins, rfl, m, z, M, x, rfl, h, fun fp H1 hfp e1 hf1 => ?_⟩
    have h1 := h.ex e1
    refine ⟨_, rfl, m, x.dx, _, rfl, h1.ins, rfl, m, z, M, x, rfl, h1, hn, fun p xs H2 hp e2 h2 E2 => ?_⟩
    have hxl : xs.length ≤ 100 := by rw [E2.len]; show (List.map _ M.rows).length ≤ 100; rw [List.length_map]; exact hn
    have key : EvL (tLc (fun σ H R => ∃ a, V.ref p = .ref a ∧ (∃ xs, SqL K H a xs) ∧ R (Itl K a) H) (gName 2) (tTest (tOp (rIn K true) (tOp (rIxT K) (tVar 2) (tC (.int 0))) (tVar 1))) (tVar 2) [2]) [some (.ref m), some (.ref fp), none] H2 xs := by
      have e : xs = given xs.length (fun _ => true) (fun i => xs.getD i .non) := by
        rw [given_all, range_map_get xs .non (fun v => v), List.map_id']
      have hw := el_lcW (te := tVar 2) (tt := tTest (tOp (rIn K true) (tOp (rIxT K) (tVar 2) (tC (.int 0))) (tVar 1))) (g := gName 2) (vs := [2]) (σ := [some (V.ref m), some (.ref fp), none]) (H := H2) (fun _ => true) (fun i => xs.getD i .non)
        (wi := fun σ H R => ∃ a, V.ref p = .ref a ∧ (∃ xs, SqL K H a xs) ∧ R (Itl K a) H) (fun H3 e3 R q => ⟨p, rfl, ⟨xs, sq_of (e3 _ _ h2)⟩, q H3 (Ex.refl _)⟩) (walk_list (K := K) (a := p) (xs := xs)) (by omega) (fun H3 e3 => sq_of (e3 _ _ h2)) fun i H3 v H4 hi e3 y R hR => ?_
      · rw [← e] at hw
        exact hw
      · obtain ⟨rfl, hxi⟩ := y
        obtain ⟨e, he, hv⟩ := (E2.ex e3).get hxi
        have hg : xs.getD i .non = v := by rw [List.getD, hxi]; rfl
        rw [hg] at hR
        exact hR _ _ (Ex.refl _) rfl (et_is (et_test (ev_op (ev_ent (ev_var rfl) hv (y := .str e.pg) rfl) (ev_var rfl) (rv_niL (sq_of (e3 _ _ (e2 _ _ hf1))) rfl rfl))) rfl) fun _ => ev_var rfl
    refine key H2 (Ex.refl _) _ fun p2 H3 hp2 e3 h3 => k p2 xs H3 (fresh_back (e1.trans e2) hp2) ((e1.trans e2).trans e3) h3 (E2.ex e3)
end
section
variable {P : Program} {w : World} {K : PySem.W.Frag} {mg : Str → Option Value} {base : Heap}
abbrev n_Alone_contains : List Str := ["self", "page"]
theorem sc_Alone_contains : FnScope n_Alone_contains ["self", "page"] (defScope s_Alone_contains) := C8.fnScope_by (by decide +kernel)
def sp_Alone_contains (K : PySem.W.Frag) : Sp := fun vs H Q _ => ∃ (m : Addr) (z : Szs) (M : M) (x : MX) (p : Str), vs = [.ref m, .str p] ∧ MachV K H m z M x ∧ RetV (.bl (decide (p ∈ M.pgs))) H Q
theorem ok_Alone_contains  (T : Ctx K mg) : C8.Met P w K mg base 1 (He.ga K "Alone") "__contains__" (sp_Alone_contains K) [] := by
  refine met_of T.f_Alone_contains (T.cls _ (by decide)) (T.met ("Alone", "__contains__") (by decide)) (N := n_Alone_contains) sc_Alone_contains (fun _ _ _ _ _ _ us hl => match us, hl with | [_, _], _ => rfl) (fun vs H Q E h => ?len) (fun cdv A outer s H vs Q E hr h => ?body)
  case len =>
    obtain ⟨_, _, _, _, _, rfl, _⟩ := h
    rfl
  case body =>
    obtain ⟨m, z, M, x, p, rfl, h, k⟩ := h
    refine ⟨_, (pss_one (ps_ret (pe_and (pe_callB (call_isiF (K := K)) (by rfl) (T.free _ (by decide)) (by decide +kernel) (pa_cons (pv 1) (pa_cons (pe_bltn (v := .ty "str") (by rfl) (T.free _ (by decide)) (by decide +kernel) rfl) pa_nil))) (pe_one (pe_cmp (pc_din (hu_of hr) (pv 1) (pe_fldK (K := K) (pv 0))) rfl))))), ?_⟩
    have c := T.cls "Alone" (by decide)
    refine s_ret (ev_is (ev_andV (a := true) (b := decide (p ∈ M.pgs)) (ev_isi (ev_var rfl) (.ty "str") (fun _ _ => ty_str) (kit_ty (by decide +kernel))) fun _ => ev_is (et_dIn (k := .str p) (ev_var rfl) (ev_fld (ev_var rfl) h.ins c (T.noat ("Alone", "own_rows") (by decide)) mF_rows) (DGet.k (k := .inr p) h.rows)) ?_) rfl) k
    rw [rowK_some, h.rs]
    rfl
end
end N32
set_option Elab.async false
set_option linter.all false
set_option maxRecDepth 100000
set_option maxHeartbeats 4000000

namespace N32
open PySem PySem.Spec PyProof.Rows L2 Evl
/-! ### writing at a machine -/
theorem Sat.setV {H : Hp} {l : List HP} {P : HP} {φ : Hp → Prop} {st : ∀ H H', φ H → Tu H H' → φ H'} (h : Sat H l) (i : Nat) (e : l[i]? = some P) (hφ : φ H) : Sat H (l.set i (N32.vp φ st)) :=
  (Sat.vp.mpr ⟨hφ, (h.pull i e).tail⟩).perm (set_perm e)
theorem Sat.setU {H : Hp} {l : List HP} {P : HP} {φ : Prop} (h : Sat H l) (i : Nat) (e : l[i]? = some P) (hφ : φ) : Sat H (l.set i (N32.pu φ)) :=
  (Sat.pu.mpr ⟨hφ, (h.pull i e).tail⟩).perm (set_perm e)
theorem Sat.setA {H : Hp} {l l1 l2 : List HP} (h : Sat H l) (i : Nat) (e : l[i]? = some (N32.al l1)) (s : l2.Sublist l1) : Sat H (l.set i (N32.al l2)) :=
  (Sat.al.mpr ((Sat.al.mp (h.pull i e)).sub (s.append (.refl _)))).perm (set_perm e)
section
variable {K : PySem.W.Frag} {σ : L2.St} {H : Hp} {m : Addr} {z : Szs} {M : M} {x : MX} {R : List HP} {D : Ends} {tz : TS} {ta tb te tv ty : TE}
theorem mCs_state {sv : V} {st : RSt} (S : Sat H (mCs K m z M x ++ R)) (h : StV H sv st) : Sat (upd H m (.ins (He.ga K "Alone") x.dx (mF K { M with st := st } { x with sv := sv }))) (mCs K m z { M with st := st } { x with sv := sv } ++ R) := by
  have S1 := S.put (o' := .ins (He.ga K "Alone") x.dx (mF K { M with st := st } { x with sv := sv })) 0 rfl
  exact S1.setV 7 rfl (h.tu (Tu.upd (S.get 0 rfl)))
theorem mCs_moment {n : Int} (S : Sat H (mCs K m z M x ++ R)) : Sat (upd H m (.ins (He.ga K "Alone") x.dx (mF K { M with moment := n } x))) (mCs K m z { M with moment := n } x ++ R) :=
  S.put (o' := .ins (He.ga K "Alone") x.dx (mF K { M with moment := n } x)) 0 rfl
theorem mCs_counts {n a b c d : Int} (S : Sat H (mCs K m z M x ++ R)) : Sat (upd H x.counts (.dK (cntK n { x with hits := a, reads := b, writes := c, broken := d }))) (mCs K m z { M with reqs := n } { x with hits := a, reads := b, writes := c, broken := d } ++ R) := by
  have hd := S.machV.ds
  have hr := S.machV.rs
  have S1 := S.put (o' := .dK (cntK n { x with hits := a, reads := b, writes := c, broken := d })) 3 rfl
  exact S1.setU 8 rfl ⟨hr, hd⟩
theorem rowCs_filter (K : PySem.W.Frag) (rs : List RowX) (q : RowX → Bool) : (rowCs K (rs.filter q)).Sublist (rowCs K rs) := by
  unfold rowCs
  induction rs with
  | nil => exact .slnil
  | cons y rs ih =>
    rw [List.filter_cons]
    split
    · rw [List.flatMap_cons, List.flatMap_cons]
      exact (List.Sublist.refl _).append ih
    · rw [List.flatMap_cons]
      exact ih.trans (List.sublist_append_right _ _)
theorem mCs_drop (q : RowD → Bool) (S : Sat H (mCs K m z M x ++ R)) : Sat (upd H x.rows (.dK (rowK (x.rs.filter fun y => q y.r)))) (mCs K m z { M with rows := M.rows.filter q } { x with rs := x.rs.filter fun y => q y.r } ++ R) := by
  have hd := S.machV.ds
  have hr := S.machV.rs
  have S1 := S.put (o' := .dK (rowK (x.rs.filter fun y => q y.r))) 1 rfl
  have S2 := S1.setA (l2 := rowCs K (x.rs.filter fun y => q y.r)) 9 rfl (rowCs_filter K _ _)
  refine S2.setU 8 rfl ⟨?_, hd⟩
  show (x.rs.filter fun y => q y.r).map (·.r) = M.rows.filter q
  rw [← hr, List.filter_map]
  rfl
theorem mCs_dirty {ds : List (Key × V)} (S : Sat H (mCs K m z M x ++ R)) (hl : ds.length ≤ M.dirt) : Sat (upd H x.dirty (.dK ds)) (mCs K m z M { x with ds := ds } ++ R) := by
  have hr := S.machV.rs
  have S1 := S.put (o' := .dK ds) 2 rfl
  exact S1.setU 8 rfl ⟨hr, hl⟩
theorem mF_len : (mF K M x).length < 1000 := lt1000
/-- self.own_counts[s] += e -/
theorem q_cnt {s : Str} {n a' b' c' d' : Int} {u v : Int} (C : Cls K (He.ga K "Alone")) (N : NoAttr K (He.ga K "Alone") "own_counts") (S : Sat H (mCs K m z M x ++ R)) (hσ : σ[0]? = some (some (.ref m))) (hy : Ev ty σ H (.str s)) (hv : Ev tv σ H (.int v)) (g : valV (cntK M.reqs x) (.inr s) = some (.int u))
    (p : putK (cntK M.reqs x) (.inr s) (.int (u + v)) = cntK n { x with hits := a', reads := b', writes := c', broken := d' })
    (k : ∀ H', Sat H' (mCs K m z { M with reqs := n } { x with hits := a', reads := b', writes := c', broken := d' } ++ R) → Tu H H' → tz D σ H') : tSeq (sDAug (tFld K (tVar 0) "own_counts") ty tv rAdd) tz D σ H := by
  refine ⟨_, hσ, m, _, x.dx, _, .ref x.counts, rfl, S.machV.ins, C, N, mF_counts, hy H (Ex.refl _) _ fun H1 e1 => ⟨x.counts, .int u, rfl, ?_, hv H1 e1 _ fun H2 e2 => ⟨u, v, rfl, rfl, _, DPut.k (k := .inr s) ((S.same (e1.trans e2)).machV.counts) (sz_lt (by show 5 < 100000; decide)), ?_⟩⟩⟩
  · rw [← g]
    exact DGet.k (k := .inr s) ((S.same e1).machV.counts)
  · have S2 := S.same (e1.trans e2)
    rw [p]
    exact k _ (mCs_counts S2) ((Ex.tu (e1.trans e2)).trans (Tu.upd S2.machV.counts))
theorem s_cnt {s : Str} {n a' b' c' d' : Int} {u v : Int} (C : Cls K (He.ga K "Alone")) (N : NoAttr K (He.ga K "Alone") "own_counts") (S : Sat H (mCs K m z M x ++ R)) (hσ : σ[0]? = some (some (.ref m))) (hy : Ev ty σ H (.str s)) (hv : Ev tv σ H (.int v)) (g : valV (cntK M.reqs x) (.inr s) = some (.int u))
    (p : putK (cntK M.reqs x) (.inr s) (.int (u + v)) = cntK n { x with hits := a', reads := b', writes := c', broken := d' })
    (k : ∀ H', Sat H' (mCs K m z { M with reqs := n } { x with hits := a', reads := b', writes := c', broken := d' } ++ R) → Tu H H' → D.nx σ H') : sDAug (tFld K (tVar 0) "own_counts") ty tv rAdd D σ H :=
  q_cnt (D := D) (tz := fun D σ H => D.nx σ H) C N S hσ hy hv g p k
theorem ev_int1 {k : Bool} (h : Ev ta σ H (.bl k)) : Ev (tCB (fun xs H Q => (∃ i, xs = [.int i] ∧ Q (.int i) H) ∨ ∃ k, xs = [.bl k] ∧ Q (.int (if k then 1 else 0)) H) (tCons ta tNil)) σ H (.int (if k then 1 else 0)) := fun H1 e Q q => h H1 e _ fun H2 e2 => .inr ⟨k, rfl, q H2 e2⟩
end

section
variable {P : Program} {w : World} {K : PySem.W.Frag} {mg : Str → Option Value} {base : Heap}
abbrev n_Alone_told : List Str := ["self", "page", "need", "may_decline", "state", "out", "broken"]
theorem sc_Alone_told : FnScope n_Alone_told ["self", "page", "need", "may_decline"] (defScope s_Alone_told) := C8.fnScope_by (by decide +kernel)
def sp_Alone_told (K : PySem.W.Frag) : Sp := fun vs H Q _ => ∃ (m : Addr) (z : Szs) (M : M) (page : Str) (need : Int) (may : Bool) (R : List HP), vs = [.ref m, .str page, .int need, .bl may] ∧ Sat H (MachP K m z M :: R) ∧ M.rule < 6 ∧ EntsOk z (M.ents z) ∧ StOk M.rule M.st 200 ∧
  ∀ ov H', Sat H' (MachP K m z { M with st := (answerF z (M.ents z) page need may M.st (ruleF M.rule M.st (M.ents z) page need)).1 } :: R) → Tu H H' → OutV H' ov (answerF z (M.ents z) page need may M.st (ruleF M.rule M.st (M.ents z) page need)).2.1 → Q ov H'
theorem ok_Alone_told  (T : Ctx K mg) : C8.Met P w K mg base 4 (He.ga K "Alone") "told" (sp_Alone_told K) [] := by
  refine met_of T.f_Alone_told (T.cls _ (by decide)) (T.met ("Alone", "told") (by decide)) (N := n_Alone_told) sc_Alone_told (fun _ _ _ _ _ _ us hl => match us, hl with | [_, _, _, _], _ => rfl) (fun vs H Q E h => ?len) (fun cdv A outer s H vs Q E hr h => ?body)
  case len =>
    obtain ⟨_, _, _, _, _, _, _, rfl, _⟩ := h
    rfl
  case body =>
    obtain ⟨m, z, M, page, need, may, R, rfl, S, hr6, hO, hst, k⟩ := h
    refine ⟨_, (pss_cons (ps_asg (C8.pe_c (ok_answer_of T) hr (by decide) (by rfl) (pa_cons (pe_fldK (K := K) (pv 0)) (pa_cons (pe_fldK (K := K) (pv 0)) (pa_cons (C8.pe_mt0 (ok_Alone_free_entries T) hr (by decide) (pv 0)) (pa_cons (pv 1) (pa_cons (pv 2) (pa_cons (pv 3) pa_nil))))))) (pg_tupK (K := K) (n := 3) (by rfl) (pgs_cons (pg_name (i := 4) sc_Alone_told.nd rfl (Or.inl rfl)) (pgs_cons (pg_name (i := 5) sc_Alone_told.nd rfl (Or.inl rfl)) (pgs_cons (pg_name (i := 6) sc_Alone_told.nd rfl (Or.inl rfl)) pgs_nil))))) (pss_cons (ps_fldK (K := K) (pv 0) (pv 4)) (pss_cons (ps_daug (hu_of hr) (pe_fldK (K := K) (pv 0)) pe_str (pe_callTy call_int1 (by rfl) (T.free _ (by decide)) (by decide +kernel) (pa_cons (pv 6) pa_nil)) in_add (fun _ _ _ => rfl)) (pss_one (ps_ret (pv 5)))))), ?_⟩
    have c := T.cls "Alone" (by decide)
    obtain ⟨x, S⟩ := MachP.open_.mp S
    have h := S.machV
    have hn : M.rows.length ≤ 100 := by
      have h1 := hO.len
      have h2 : (M.ents z).length = M.rows.length := List.length_map _
      omega
    refine ⟨_, rfl, m, _, x.dx, _, .ref (fR K M.rule), rfl, h.ins, c, T.noat ("Alone", "own_rule") (by decide), mF_rule, ?_⟩
    refine ⟨_, rfl, m, _, x.dx, _, x.sv, rfl, h.ins, c, T.noat ("Alone", "own_state") (by decide), mF_state, ?_⟩
    refine ⟨_, rfl, m, x.dx, _, rfl, h.ins, rfl, m, z, M, x, rfl, h, hn, fun p xs H1 hp e1 h1 E1 => ?_⟩
    refine ⟨_, rfl, _, rfl, _, rfl, M.rule, x.sv, p, xs, M.ents z, page, need, may, M.st, z, rfl, hr6, h.st.ex e1, sq_of h1, E1, hO, hst, fun t sv ov H2 e2 ht hs2 ho2 => ?_⟩
    generalize answerF z (M.ents z) page need may M.st (ruleF M.rule M.st (M.ents z) page need) = a at ht hs2 ho2 k
    obtain ⟨a1, a2, a3⟩ := a
    have S2 := S.same (e1.trans e2)
    have h2 := S2.machV
    refine ⟨t, _, rfl, st_of ht, rfl, _, _, rfl, _, _, rfl, _, _, rfl, rfl, ?_⟩
    refine q_fld (ev_var rfl) (ev_var rfl) h2.ins c (T.noat ("Alone", "own_state") (by decide)) mF_len fun H3 e3 => ?_
    have S3 := mCs_state (S2.same e3) (hs2.ex e3)
    have t3 : Tu H (upd H3 m (.ins (He.ga K "Alone") x.dx (mF K { M with st := a1 } { x with sv := sv }))) := (Ex.tu ((e1.trans e2).trans e3)).trans (Tu.upd ((S2.same e3).machV.ins))
    rw [show putF "own_state" sv (mF K M x) = mF K { M with st := a1 } { x with sv := sv } from mF_putS]
    refine q_cnt (u := x.broken) (v := if a3 then 1 else 0) (n := M.reqs) (a' := x.hits) (b' := x.reads) (c' := x.writes) (d' := x.broken + if a3 then 1 else 0) c (T.noat ("Alone", "own_counts") (by decide)) S3 rfl ev_c (ev_int1 (ev_var rfl)) rfl rfl fun H4 S4 t4 => ?_
    refine s_ret (ev_var rfl) fun H5 e5 => k ov H5 (MachP.open_.mpr ⟨_, S4.same e5⟩) ((t3.trans t4).trans (Ex.tu e5)) ?_
    have tt : Tu H2 H5 := (((Ex.tu e3).trans (Tu.upd ((S2.same e3).machV.ins))).trans t4).trans (Ex.tu e5)
    cases a2 with
    | none => exact ho2
    | some out => obtain ⟨u, h1, h2⟩ := ho2; exact ⟨u, h1, tt _ _ h2⟩
end
section
variable {P : Program} {w : World} {K : PySem.W.Frag} {mg : Str → Option Value} {base : Heap}
abbrev n_Alone_count : List Str := ["self", "hit"]
theorem sc_Alone_count : FnScope n_Alone_count ["self", "hit"] (defScope s_Alone_count) := C8.fnScope_by (by decide +kernel)
def sp_Alone_count (K : PySem.W.Frag) : Sp := fun vs H Q _ => ∃ (m : Addr) (z : Szs) (M : M) (hit : Bool) (R : List HP), vs = [.ref m, .bl hit] ∧ Sat H (MachP K m z M :: R) ∧ ∀ H', Sat H' (MachP K m z M :: R) → Tu H H' → Q .non H'
theorem ok_Alone_count  (T : Ctx K mg) : C8.Met P w K mg base 1 (He.ga K "Alone") "count" (sp_Alone_count K) [] := by
  refine met_of T.f_Alone_count (T.cls _ (by decide)) (T.met ("Alone", "count") (by decide)) (N := n_Alone_count) sc_Alone_count (fun _ _ _ _ _ _ us hl => match us, hl with | [_, _], _ => rfl) (fun vs H Q E h => ?len) (fun cdv A outer s H vs Q E hr h => ?body)
  case len =>
    obtain ⟨_, _, _, _, _, rfl, _⟩ := h
    rfl
  case body =>
    obtain ⟨m, z, M, hit, R, rfl, S, k⟩ := h
    refine ⟨_, (pss_one (ps_daug (hu_of hr) (pe_fldK (K := K) (pv 0)) (pe_ifExp (pt_val (pv 1)) pe_str pe_str) pe_int in_add (fun _ _ _ => rfl))), ?_⟩
    have c := T.cls "Alone" (by decide)
    obtain ⟨x, S⟩ := MachP.open_.mp S
    cases hit with
    | true =>
      exact s_cnt (s := "hits") (u := x.hits) (v := 1) (n := M.reqs) (a' := x.hits + 1) (b' := x.reads) (c' := x.writes) (d' := x.broken) c (T.noat ("Alone", "own_counts") (by decide)) S rfl (ev_if (et_B (ev_var rfl)) (fun _ => ev_c) fun h => nomatch h) ev_c rfl rfl fun H4 S4 t4 => k H4 (MachP.open_.mpr ⟨_, S4⟩) t4
    | false =>
      exact s_cnt (s := "reads") (u := x.reads) (v := 1) (n := M.reqs) (a' := x.hits) (b' := x.reads + 1) (c' := x.writes) (d' := x.broken) c (T.noat ("Alone", "own_counts") (by decide)) S rfl (ev_if (et_B (ev_var rfl)) (fun h => nomatch h) fun _ => ev_c) ev_c rfl rfl fun H4 S4 t4 => k H4 (MachP.open_.mpr ⟨_, S4⟩) t4
end
theorem Sat.grow {H H' : Hp} {l : List HP} {p : Addr} {o : HO} (h : Sat H l) (hp : H p = none) (e : Ex H H') (h' : H' p = some o) (n : ¬ isTup o := by exact fun z => z) : Sat H' (pt p o :: l) := by
  obtain ⟨G, g⟩ := h
  refine ⟨fun a => a = p ∨ G a, fun a => a = p, G, ⟨h', n, fun _ => Iff.rfl⟩, g.stay fun a ob ea _ => e _ _ ea, ?_, fun _ => Iff.rfl⟩
  rintro a rfl z
  obtain ⟨ob, ea, _⟩ := g.own _ z
  rw [hp] at ea; cases ea
/-- the first behind the rest -/
theorem Sat.back {H : Hp} {P : HP} {l R : List HP} (h : Sat H (P :: (l ++ R))) : Sat H (l ++ P :: R) := h.perm List.perm_middle.symm
theorem Sat.fore {H : Hp} {P : HP} {l R : List HP} (h : Sat H (l ++ P :: R)) : Sat H (P :: (l ++ R)) := h.perm List.perm_middle
theorem rowK_drop (rs : List RowX) (p : Str) : dropK (rowK rs) (.inr p) = rowK (rs.filter fun y => decide (y.r.pg ≠ p)) := by
  unfold dropK rowK
  rw [List.filter_map]
  congr 1
  apply List.filter_congr
  intro y _
  show decide ((Sum.inr y.r.pg : Key) ≠ .inr p) = _
  by_cases e : y.r.pg = p
  · simp [e]
  · have : ¬ (Sum.inr y.r.pg : Key) = .inr p := fun z => e (Sum.inr.inj z)
    simp [e]
theorem dropR_snoc (rows : List RowD) (out : List Str) (p : Str) : dropR rows (out ++ [p]) = (dropR rows out).filter fun r => decide (r.pg ≠ p) := by
  unfold dropR
  rw [List.filter_filter]
  apply List.filter_congr
  intro r _
  simp [not_or, and_comm]
theorem dropK_len {κ : Type} [DecidableEq κ] (kvs : List (κ × V)) (k : κ) : (dropK kvs k).length ≤ kvs.length := List.length_filter_le _ _

section
variable {P : Program} {w : World} {K : PySem.W.Frag} {mg : Str → Option Value} {base : Heap}
abbrev n_Alone_thrown : List Str := ["self", "out", "wrote", "page"]
theorem sc_Alone_thrown : FnScope n_Alone_thrown ["self", "out"] (defScope s_Alone_thrown) := C8.fnScope_by (by decide +kernel)
def sp_Alone_thrown (K : PySem.W.Frag) : Sp := fun vs H Q _ => ∃ (m t : Addr) (z : Szs) (M : M) (out : List Str) (R : List HP), vs = [.ref m, .ref t] ∧ H t = some (.tup (out.map V.str)) ∧ out.Nodup ∧ (∀ p ∈ out, p ∈ M.pgs) ∧ out.length ≤ 100 ∧ Sat H (MachP K m z M :: R) ∧
  ∀ w ws H', Sat H' (MachP K m z { M with rows := dropR M.rows out } :: pt w (.lst ws) :: R) → Tu H H' → ws.length ≤ 100 → Q (.ref w) H'
theorem ok_Alone_thrown  (T : Ctx K mg) : C8.Met P w K mg base 1 (He.ga K "Alone") "thrown" (sp_Alone_thrown K) [] := by
  refine met_of T.f_Alone_thrown (T.cls _ (by decide)) (T.met ("Alone", "thrown") (by decide)) (N := n_Alone_thrown) sc_Alone_thrown (fun _ _ _ _ _ _ us hl => match us, hl with | [_, _], _ => rfl) (fun vs H Q E h => ?len) (fun cdv A outer s H vs Q E hr h => ?body)
  case len =>
    obtain ⟨_, _, _, _, _, _, rfl, _⟩ := h
    rfl
  case body =>
    obtain ⟨m, t, z, M, out, R, rfl, ht, hnd, hin, hol, S, k⟩ := h
    refine ⟨_, (pss_cons (ps_setLc (i := 2) (own := [("page", 3)]) (by rfl) sc_Alone_thrown.nd rfl rfl (sw_true rfl rfl rfl (by decide +kernel)) (pi_tupK (K := K) (pv 1)) (blkOk_by (own := [("page", 3)]) (N := n_Alone_thrown) (sc := defScope s_Alone_thrown) (by decide +kernel)) (fun _ _ _ _ _ => pg_name (i := 3) sc_Alone_thrown.nd rfl (Or.inl rfl)) (fun _ _ _ _ _ => by exact (pts_one (pt_cmp (pc_din (hu_of hr) (pv 3) (pe_fldK (K := K) (pv 0)))))) (fun _ _ _ _ _ => by exact (pv 3))) (pss_cons (ps_for PassesOwn.never (by rfl) (pi_tupK (K := K) (pv 1)) (pg_name (i := 3) sc_Alone_thrown.nd rfl (Or.inl rfl)) (pss_cons (ps_expr (pe_dpop1 (pe_fldK (K := K) (pv 0)) (pv 3) ⟨by rfl, by rfl, by rfl, by rfl⟩)) (pss_one (ps_expr (pe_dpop2 (pe_fldK (K := K) (pv 0)) (pv 3) pe_non ⟨by rfl, by rfl, by rfl, by rfl⟩))))) (pss_one (ps_ret (pv 2))))), ?_⟩
    have c := T.cls "Alone" (by decide)
    obtain ⟨x, S⟩ := MachP.open_.mp S
    have h := S.machV
    refine q_asgL (xs := given (out.map V.str).length (fun i => (valV x.ds (.inr (out.getD i ""))).isSome) fun i => .str (out.getD i "")) (el_lcW _ _ (wi_tup (ev_var rfl) (st_of ht)) walk_tup (by rw [List.length_map]; omega) (fun H5 e5 => st_of (e5 _ _ ht)) fun i H5 v H6 hi e5 y R hRR => ?_) fun w H1 hw e1 h1 => ?_
    · obtain ⟨rfl, hxi⟩ := y
      rw [List.getElem?_map] at hxi
      obtain ⟨n, hn2, rfl⟩ := Option.map_eq_some_iff.mp hxi
      have hg : out.getD i "" = n := by rw [List.getD, hn2]; rfl
      rw [hg] at hRR
      exact hRR _ _ (Ex.refl _) rfl (et_B (et_dIn (k := .str n) (ev_var rfl) (ev_fld (ev_var rfl) (e5 _ _ h.ins) c (T.noat ("Alone", "own_dirty") (by decide)) mF_dirty) (DGet.k (k := .inr n) (e5 _ _ h.dirty)))) fun _ => ev_var rfl
    generalize hws : given (out.map V.str).length (fun i => (valV x.ds (.inr (out.getD i ""))).isSome) (fun i => V.str (out.getD i "")) = ws at h1
    have hwl : ws.length ≤ 100 := by
      rw [← hws]
      have := given_len (out.map V.str).length (fun i => (valV x.ds (.inr (out.getD i ""))).isSome) (fun i => V.str (out.getD i ""))
      rw [List.length_map] at this ⊢
      omega
    have S1 := (S.grow hw e1 h1).back
    refine q_forT (ev_var rfl) (st_of (e1 _ _ ht)) (fun i σ' H' => Tu H H' ∧ (∃ a, σ' = [some (.ref m), some (.ref t), some (.ref w), a]) ∧ ∃ x', Sat H' (mCs K m z { M with rows := dropR M.rows (out.take i) } x' ++ pt w (.lst ws) :: R))
      (fun H2 e2 => ⟨Ex.tu (e1.trans e2), ⟨_, rfl⟩, x, ?_⟩) (fun i σ' H' _ p => st_of (p.1 _ _ ht)) ?_ ?_
    · have : ({ M with rows := dropR M.rows (out.take 0) } : N32.M) = M := by
        show ({ M with rows := dropR M.rows [] } : N32.M) = M
        unfold dropR
        rw [List.filter_eq_self.mpr (fun r _ => by simp)]
      rw [this]
      exact S1.same e2
    · rintro i v σ' H' hxi ⟨p1, ⟨a, rfl⟩, x', p3⟩
      rw [List.getElem?_map] at hxi
      obtain ⟨p, hp, rfl⟩ := Option.map_eq_some_iff.mp hxi
      have htk : out.take (i + 1) = out.take i ++ [p] := by rw [List.take_add_one, hp]; rfl
      have hpi : p ∉ out.take i := fun hm => by
        obtain ⟨j, hj⟩ := List.mem_iff_getElem?.mp hm
        rw [List.getElem?_take] at hj
        split at hj
        · rename_i hlt
          have := nd_ix hnd hj hp
          omega
        · cases hj
      have h3 := p3.machV
      have hmem : p ∈ (x'.rs.map (·.r)).map (·.pg) := by
        rw [h3.rs]
        show p ∈ (dropR M.rows (out.take i)).map (·.pg)
        obtain ⟨r, hr, e⟩ := List.mem_map.mp (hin p (List.mem_of_getElem? hp))
        refine List.mem_map.mpr ⟨r, List.mem_filter.mpr ⟨hr, ?_⟩, e⟩
        rw [e]
        exact decide_eq_true hpi
      have hsome := rowK_some (rs := x'.rs) (p := p)
      rw [decide_eq_true hmem] at hsome
      obtain ⟨v, hv⟩ := Option.isSome_iff_exists.mp hsome
      refine ⟨_, rfl, m, _, x'.dx, _, .ref x'.rows, rfl, h3.ins, c, T.noat ("Alone", "own_rows") (by decide), mF_rows, x'.rows, rfl, .inl ⟨_, .inl h3.rows⟩, _, rfl, rowK x'.rs, .inr p, v, h3.rows, rfl, hv, ?_⟩
      rw [rowK_drop]
      have S4 := mCs_drop (fun r => decide (r.pg ≠ p)) p3
      have t4 : Tu H' (upd H' x'.rows (.dK (rowK (x'.rs.filter fun y => decide (y.r.pg ≠ p))))) := Tu.upd h3.rows
      have hM : ({ ({ M with rows := dropR M.rows (out.take i) } : N32.M) with rows := (dropR M.rows (out.take i)).filter fun r => decide (r.pg ≠ p) } : N32.M) = { M with rows := dropR M.rows (out.take (i + 1)) } := by
        rw [htk, dropR_snoc]
      have h4 := S4.machV
      refine ⟨_, rfl, m, _, x'.dx, _, .ref x'.dirty, rfl, h4.ins, c, T.noat ("Alone", "own_dirty") (by decide), mF_dirty, x'.dirty, rfl, .inl ⟨_, .inl h4.dirty⟩, _, rfl, x'.ds, .inr p, h4.dirty, rfl, fun v2 hv2 => ?_, fun _ => ?_⟩
      · have S5 := mCs_dirty (ds := dropK x'.ds (.inr p)) S4 (Nat.le_trans (dropK_len _ _) h4.ds)
        rw [hM] at S5
        exact ⟨(p1.trans t4).trans (Tu.upd h4.dirty), ⟨_, rfl⟩, _, S5⟩
      · rw [hM] at S4
        exact ⟨p1.trans t4, ⟨_, rfl⟩, _, S4⟩
    · rintro σ' H' ⟨p1, ⟨a, rfl⟩, x', p3⟩
      rw [List.length_map, List.take_length] at p3
      exact ⟨_, rfl, k w ws H' (MachP.open_.mpr ⟨x', p3⟩) p1 hwl⟩
end
section
variable {K : PySem.W.Frag} {H : Hp} {m : Addr} {z : Szs} {M : M} {x : MX} {R : List HP}
theorem mCs_open (S : Sat H (mCs K m z M x ++ R)) : Sat H (rowCs K x.rs ++ (mCs K m z M x ++ R).eraseIdx 9) := Sat.al.mp (S.pull 9 rfl)
theorem mCs_close {rs' : List RowX} (S : Sat H (rowCs K rs' ++ (mCs K m z M x ++ R).eraseIdx 9)) : Sat H ((mCs K m z M x ++ R).set 9 (al (rowCs K rs'))) := (Sat.al.mpr S).perm (set_perm rfl)
theorem rowCs_app (rs rs' : List RowX) : rowCs K (rs ++ rs') = rowCs K rs ++ rowCs K rs' := by
  unfold rowCs
  rw [List.flatMap_append]
theorem perm_mid2 {l1 l2 l3 : List HP} {a b : HP} : ((l1 ++ a :: b :: l2) ++ l3).Perm (a :: b :: ((l1 ++ l2) ++ l3)) := by
  rw [List.append_assoc, List.append_assoc]
  exact List.perm_middle.trans (List.perm_middle.cons a)
theorem perm_in2 {X C R : List HP} {a b : HP} : (X ++ (C ++ a :: b :: R)).Perm ((X ++ [a, b]) ++ (C ++ R)) := by
  rw [List.append_assoc]
  exact List.Perm.append_left X (List.perm_middle.trans (List.perm_middle.cons a))
theorem rowK_find {rs : List RowX} {p : Str} (h : p ∈ (rs.map (·.r)).map (·.pg)) : ∃ l1 y l2, rs = l1 ++ y :: l2 ∧ y.r.pg = p ∧ (∀ w ∈ l1, w.r.pg ≠ p) ∧ valV (rowK rs) (.inr p) = some (.ref y.p) := by
  induction rs with
  | nil => simp at h
  | cons y rs ih =>
    by_cases e : y.r.pg = p
    · exact ⟨[], y, rs, rfl, e, fun w hw => by simp at hw, valV_pos (p := (Sum.inr y.r.pg, V.ref y.p)) (congrArg Sum.inr e)⟩
    · have h2 : p ∈ (rs.map (·.r)).map (·.pg) := by
        rcases List.mem_cons.mp h with a | a
        · exact (e a.symm).elim
        · exact a
      obtain ⟨l1, w, l2, e1, e2, e3, e4⟩ := ih h2
      refine ⟨y :: l1, w, l2, by rw [e1]; rfl, e2, fun v hv => ?_, ?_⟩
      · rcases List.mem_cons.mp hv with rfl | hv
        · exact e
        · exact e3 v hv
      · rw [← e4]
        exact valV_neg (fun z => e (Sum.inr.inj z))
theorem useR_mid {l1 l2 : List RowX} {y : RowX} {p : Str} {n : Int} (hp : y.r.pg = p) (hn : (((l1 ++ y :: l2).map (·.r)).map (·.pg)).Nodup) : useR ((l1 ++ y :: l2).map (·.r)) p n = (l1 ++ (⟨y.p, y.dx, { y.r with last := n, uses := y.r.uses + 1 }⟩ : RowX) :: l2).map (·.r) := by
  have other : ∀ l : List RowX, (∀ w ∈ l, w.r.pg ≠ p) → useR (l.map (·.r)) p n = l.map (·.r) := by
    intro l hl
    unfold useR
    rw [List.map_map]
    apply List.map_congr_left
    intro w hw
    exact if_neg (hl w hw)
  have hsplit : useR ((l1 ++ y :: l2).map (·.r)) p n = useR (l1.map (·.r)) p n ++ (useR [y.r] p n ++ useR (l2.map (·.r)) p n) := by
    unfold useR
    rw [List.map_append, List.map_append, List.map_cons, List.map_cons]
    rfl
  rw [List.map_append, List.map_append, List.map_cons, List.map_cons, List.nodup_append] at hn
  obtain ⟨h1, h2, h3⟩ := hn
  rw [List.nodup_cons] at h2
  rw [hsplit, other l1, other l2, List.map_append, List.map_cons]
  · congr 1
    unfold useR
    rw [List.map_cons, List.map_nil, if_pos hp]
    rfl
  · intro w hw e
    exact h2.1 (by rw [hp, ← e]; exact List.mem_map_of_mem (List.mem_map_of_mem hw))
  · intro w hw e
    exact h3 w.r.pg (List.mem_map_of_mem (List.mem_map_of_mem hw)) y.r.pg List.mem_cons_self (e.trans hp.symm)
end

section
variable {P : Program} {w : World} {K : PySem.W.Frag} {mg : Str → Option Value} {base : Heap}
abbrev n_Alone_note : List Str := ["self", "page", "at", "hit", "number"]
theorem sc_Alone_note : FnScope n_Alone_note ["self", "page", "at", "hit"] (defScope s_Alone_note) := C8.fnScope_by (by decide +kernel)
def sp_Alone_note (K : PySem.W.Frag) : Sp := fun vs H Q _ => ∃ (m : Addr) (z : Szs) (M : M) (page : Str) (at_ : Int) (R : List HP), vs = [.ref m, .str page, .int at_, .bl (decide (page ∈ M.pgs))] ∧ Sat H (MachP K m z M :: R) ∧ M.pgs.Nodup ∧ M.rows.length ≤ 100 ∧
  ∀ H', Sat H' (MachP K m z { M with rows := if page ∈ M.pgs then useR M.rows page M.reqs else M.rows ++ [⟨page, M.reqs, M.reqs, 1, at_⟩] } :: R) → Tu H H' → Q .non H'
theorem ok_Alone_note  (T : Ctx K mg) : C8.Met P w K mg base 3 (He.ga K "Alone") "note" (sp_Alone_note K) [] := by
  refine met_of T.f_Alone_note (T.cls _ (by decide)) (T.met ("Alone", "note") (by decide)) (N := n_Alone_note) sc_Alone_note (fun _ _ _ _ _ _ us hl => match us, hl with | [_, _, _, _], _ => rfl) (fun vs H Q E h => ?len) (fun cdv A outer s H vs Q E hr h => ?body)
  case len =>
    obtain ⟨_, _, _, _, _, _, rfl, _⟩ := h
    rfl
  case body =>
    obtain ⟨m, z, M, page, at_, R, rfl, S, hnd, hl, k⟩ := h
    refine ⟨_, (pss_cons (ps_set (i := 4) sc_Alone_note.nd rfl (Or.inl rfl) (pe_dget (hu_of hr) (pe_fldK (K := K) (pv 0)) pe_str (fun _ _ => rfl))) (pss_one (ps_if (pt_val (pv 3)) (pss_one (ps_expr (pe_mtSl (ok_Row_use T) hr (by decide) (pe_dget (hu_of hr) (pe_fldK (K := K) (pv 0)) (pv 1) (fun _ _ => rfl)) (pa_cons (pv 4) pa_nil)))) (pss_one (ps_dput (hu_of hr) (pe_fldK (K := K) (pv 0)) (pv 1) (C8.pe_mk (ok_Row_init T) hr (by decide) (by rfl) (pa_cons (pv 4) (pa_cons (pv 4) (pa_cons pe_int (pa_cons (pv 2) pa_nil))))) rfl))))), ?_⟩
    have c := T.cls "Alone" (by decide)
    obtain ⟨x, S⟩ := MachP.open_.mp S
    have h := S.machV
    refine q_asg (v := .int M.reqs) (ev_dget (k := .str "requests") (ev_fld (ev_var rfl) h.ins c (T.noat ("Alone", "own_counts") (by decide)) mF_counts) ev_c (DGet.k (k := .inr "requests") h.counts)) fun H1 e1 => ?_
    refine s_if (et_B (ev_var rfl)) (fun hb H2 e2 => ?_) fun hb H2 e2 => ?_
    · have hb := of_decide_eq_true hb
      have S2 := S.same (e1.trans e2)
      have h2 := S2.machV
      have hm : page ∈ (x.rs.map (·.r)).map (·.pg) := by rw [h.rs]; exact hb
      obtain ⟨l1, y, l2, er, ep, el, ev⟩ := rowK_find hm
      have hy := h2.row y (by rw [er]; simp)
      refine ⟨_, rfl, m, _, x.dx, _, .ref x.rows, rfl, h2.ins, c, T.noat ("Alone", "own_rows") (by decide), mF_rows, _, rfl, x.rows, .ref y.p, rfl, ?_, y.p, y.dx, _, rfl, .inr hy, _, rfl, ?_⟩
      · rw [← ev]
        exact DGet.k (k := .inr page) h2.rows
      have S3 := mCs_open S2
      rw [er, rowCs_app] at S3
      have S4 : Sat H2 (pt y.p (RowO K y.p y.dx y.r) :: pt y.dx (.xd []) :: ((rowCs K l1 ++ rowCs K l2) ++ (mCs K m z M x ++ R).eraseIdx 9)) := S3.perm perm_mid2
      refine ⟨y.p, y.dx, y.r, M.reqs, _, rfl, S4, fun H5 S5 t5 => ?_⟩
      have S6 : Sat H5 (rowCs K (l1 ++ (⟨y.p, y.dx, { y.r with last := M.reqs, uses := y.r.uses + 1 }⟩ : RowX) :: l2) ++ (mCs K m z M x ++ R).eraseIdx 9) := by
        rw [rowCs_app]
        exact S5.perm perm_mid2.symm
      have hrow : useR M.rows page M.reqs = (l1 ++ (⟨y.p, y.dx, { y.r with last := M.reqs, uses := y.r.uses + 1 }⟩ : RowX) :: l2).map (·.r) := by
        rw [← h.rs, er]
        refine useR_mid ep ?_
        rw [← er, h.rs]
        exact hnd
      have hK : rowK x.rs = rowK (l1 ++ (⟨y.p, y.dx, { y.r with last := M.reqs, uses := y.r.uses + 1 }⟩ : RowX) :: l2) := by
        rw [er]
        unfold rowK
        rw [List.map_append, List.map_append, List.map_cons, List.map_cons]
      have S7 := (mCs_close S6).setU (φ := (l1 ++ (⟨y.p, y.dx, { y.r with last := M.reqs, uses := y.r.uses + 1 }⟩ : RowX) :: l2).map (·.r) = useR M.rows page M.reqs ∧ x.ds.length ≤ M.dirt) 8 rfl ⟨hrow.symm, h.ds⟩
      refine k H5 ?_ ((Ex.tu (e1.trans e2)).trans t5)
      rw [if_pos hb]
      refine MachP.open_.mpr ⟨{ x with rs := l1 ++ (⟨y.p, y.dx, { y.r with last := M.reqs, uses := y.r.uses + 1 }⟩ : RowX) :: l2 }, ?_⟩
      unfold mCs
      rw [← hK]
      exact S7
    · have hb := of_decide_eq_false hb
      have S2 := S.same (e1.trans e2)
      have h2 := S2.machV
      refine ⟨_, rfl, _, rfl, _, rfl, fun p dx hp hd hne => ?_⟩
      have S3 := S2.madeD (C := He.ga K "Row") hp hd hne
      refine ⟨p, dx, ⟨page, M.reqs, M.reqs, 1, at_⟩, _, rfl, S3, fun H4 S4 t4 => ⟨rfl, ?_⟩⟩
      have S5 : Sat H4 (mCs K m z M x ++ pt p (RowO K p dx ⟨page, M.reqs, M.reqs, 1, at_⟩) :: pt dx (.xd []) :: R) :=
        (S4.perm (l' := pt dx (.xd []) :: pt p (RowO K p dx ⟨page, M.reqs, M.reqs, 1, at_⟩) :: (mCs K m z M x ++ R)) (.swap _ _ _)).perm ((List.perm_middle (l₁ := mCs K m z M x)).trans (List.perm_middle.cons _ |>.trans (.swap _ _ _))).symm
      have h5 := S5.machV
      have hnv : valV (rowK x.rs) (.inr page) = none := by
        have := rowK_some (rs := x.rs) (p := page)
        rw [h.rs] at this
        have h3 : decide (page ∈ M.rows.map (·.pg)) = false := decide_eq_false hb
        rw [h3] at this
        cases hv : valV (rowK x.rs) (.inr page) with
        | none => rfl
        | some v => rw [hv] at this; cases this
      have hlr := rows_len h
      refine ⟨_, rfl, m, _, x.dx, _, .ref x.rows, rfl, h5.ins, c, T.noat ("Alone", "own_rows") (by decide), mF_rows, _, rfl, x.rows, _, rfl, DPut.k (k := .inr page) h5.rows (sz_lt (by rw [rowK_len]; omega)), ?_⟩
      rw [putK_new _ hnv]
      have hK : rowK x.rs ++ [((.inr page : Key), V.ref p)] = rowK (x.rs ++ [⟨p, dx, ⟨page, M.reqs, M.reqs, 1, at_⟩⟩]) := by
        unfold rowK
        rw [List.map_append]
        rfl
      rw [hK]
      have S6 := S5.put (o' := .dK (rowK (x.rs ++ [⟨p, dx, ⟨page, M.reqs, M.reqs, 1, at_⟩⟩]))) 1 rfl
      have tm : Tu H2 (upd (upd H2 dx (.own p)) p (.ins (He.ga K "Row") dx [])) := (Tu.new hd).trans (Tu.new (by rw [upd_ne hne.symm]; exact hp))
      refine k _ ?_ ((((Ex.tu (e1.trans e2)).trans tm).trans t4).trans (Tu.upd h5.rows))
      rw [if_neg hb]
      refine MachP.open_.mpr ⟨{ x with rs := x.rs ++ [⟨p, dx, ⟨page, M.reqs, M.reqs, 1, at_⟩⟩] }, ?_⟩
      have S7 := S6.pull 9 rfl
      have S8 := Sat.al.mp S7
      have S9 := S8.perm (perm_in2 (X := rowCs K x.rs) (C := [pt m (.ins (He.ga K "Alone") x.dx (mF K M x)), pt x.rows (.dK (rowK (x.rs ++ [⟨p, dx, ⟨page, M.reqs, M.reqs, 1, at_⟩⟩]))), pt x.dirty (.dK x.ds), pt x.counts (.dK (cntK M.reqs x)), pt x.szs (.dK (szK z)), pt x.pins (.lst []),
        tp x.tk [.int 0, .int 0], vp (fun H => StV H x.sv M.st) (fun _ _ h e => h.tu e), pu (x.rs.map (·.r) = M.rows ∧ x.ds.length ≤ M.dirt)]) (R := R))
      have hC : rowCs K x.rs ++ [pt p (RowO K p dx ⟨page, M.reqs, M.reqs, 1, at_⟩), pt dx (.xd [])] = rowCs K (x.rs ++ [⟨p, dx, ⟨page, M.reqs, M.reqs, 1, at_⟩⟩]) := by
        rw [rowCs_app]
        rfl
      rw [hC] at S9
      have S10 := (Sat.al.mpr S9).setU (φ := (x.rs ++ [(⟨p, dx, ⟨page, M.reqs, M.reqs, 1, at_⟩⟩ : RowX)]).map (·.r) = M.rows ++ [⟨page, M.reqs, M.reqs, 1, at_⟩] ∧ x.ds.length ≤ M.dirt) 9 rfl ⟨by rw [List.map_append, h.rs]; rfl, h.ds⟩
      exact S10.perm (List.perm_middle (l₁ := [_, _, _, _, _, _, _, _, _])).symm
end
end N32
set_option Elab.async false
set_option linter.all false
set_option maxRecDepth 100000
set_option maxHeartbeats 4000000

namespace N32
open PySem PySem.Spec PyProof.Rows L2 Evl
theorem StOk.mono {r : Nat} {st : RSt} {n n' : Int} (h : StOk r st n) (e : n ≤ n') : StOk r st n' := by
  unfold StOk at *
  split at h <;> simp_all <;> omega
theorem used_ge {z : Szs} (hz : SzOk z) : ∀ rows : List RowD, (rows.length : Int) ≤ usedR z rows
  | [] => by simp [usedR]
  | r :: rows => by
    have ih := used_ge hz rows
    have h1 := szOf_bd hz r.pg
    unfold usedR at *
    rw [List.map_cons, List.sum_cons, List.length_cons]
    omega
theorem MOk.len {z : Szs} {m : M} (h : MOk z m) (hz : SzOk z) : m.rows.length ≤ 8 := by
  have h1 := used_ge hz m.rows
  have h2 := h.used
  have h3 := h.share.2
  unfold M.used at h2
  omega
theorem MOk.entsOk {z : Szs} {m : M} (h : MOk z m) (hz : SzOk z) : EntsOk z (m.ents z) := by
  refine ⟨?_, ?_, ?_⟩
  · have := h.len hz
    show (List.map _ m.rows).length ≤ 60
    rw [List.length_map]
    omega
  · intro e he
    obtain ⟨r, _, rfl⟩ := List.mem_map.mp he
    rfl
  · have := h.since
    show (List.map _ (List.map _ m.rows)).Pairwise (· < ·)
    rw [List.map_map]
    exact this
theorem taken_sub {page : Str} {need : Int} : ∀ (es : List Ent) (acc : List Str × Int), ∃ l, (es.foldl (takeStep page need) acc).1 = acc.1 ++ l ∧ l.Sublist ((namesO es).filter fun p => decide (p ≠ page))
  | [], acc => ⟨[], by simp, by simp [namesO]⟩
  | e :: es, acc => by
    obtain ⟨l, h1, h2⟩ := taken_sub (page := page) (need := need) es (takeStep page need acc e)
    rw [List.foldl_cons, h1]
    unfold namesO at *
    rw [List.map_cons, List.filter_cons]
    by_cases hc : acc.2 < need ∧ e.pg ≠ page
    · refine ⟨e.pg :: l, ?_, ?_⟩
      · rw [takeStep_yes hc, List.append_assoc]
        rfl
      · rw [if_pos (decide_eq_true hc.2)]
        exact h2.cons_cons _
    · refine ⟨l, by rw [takeStep_no hc], ?_⟩
      split
      · exact h2.cons _
      · exact h2
theorem takenL_sub (es : List Ent) (page : Str) (need : Int) : (takenL es page need).Sublist ((namesO es).filter fun p => decide (p ≠ page)) := by
  obtain ⟨l, h1, h2⟩ := taken_sub (page := page) (need := need) es ([], 0)
  show ((es.foldl (takeStep page need) ([], 0)).1).Sublist _
  rw [h1]
  exact h2
theorem answerF_out {z : Szs} {es : List Ent} {page : Str} {need : Int} {may : Bool} {st : RSt} {a : Ans} {out : List Str} (hn : (namesO es).Nodup) (h : (answerF z es page need may st a).2.1 = some out) : out.Nodup ∧ ∀ p ∈ out, p ∈ namesO es ∧ p ≠ page := by
  have fb : (takenL es page need).Nodup ∧ ∀ p ∈ takenL es page need, p ∈ namesO es ∧ p ≠ page := by
    have s := takenL_sub es page need
    refine ⟨(hn.sublist List.filter_sublist).sublist s, fun p hp => ?_⟩
    have := s.subset hp
    rw [List.mem_filter] at this
    exact ⟨this.1, of_decide_eq_true this.2⟩
  cases a with
  | ok st' o =>
    unfold answerF at h
    dsimp only at h
    split at h
    · rename_i hi
      cases h
      unfold isAns at hi
      rw [Bool.and_eq_true, Bool.and_eq_true, List.all_eq_true] at hi
      exact ⟨of_decide_eq_true hi.2.1, fun p hp => of_decide_eq_true (hi.1 p hp)⟩
    · cases h
      exact fb
  | no st' =>
    unfold answerF at h
    dsimp only at h
    split at h
    · cases h
    · cases h
      exact fb
  | bad =>
    cases h
    exact fb
theorem names_ents (z : Szs) (m : M) : namesO (m.ents z) = m.pgs := by
  unfold namesO
  show List.map _ (List.map _ m.rows) = List.map _ m.rows
  rw [List.map_map]
  rfl
theorem outF_ok {z : Szs} {m : M} {page : Str} (h : m.pgs.Nodup) : (outF z m page).Nodup ∧ ∀ p ∈ outF z m page, p ∈ m.pgs ∧ p ≠ page := by
  unfold outF
  split
  · cases e : (toldF z m page).2.1 with
    | none => exact ⟨List.nodup_nil, fun p hp => nomatch hp⟩
    | some out =>
      have := answerF_out (z := z) (es := m.ents z) (by rw [names_ents]; exact h) e
      rw [names_ents] at this
      exact this
  · exact ⟨List.nodup_nil, fun p hp => nomatch hp⟩
theorem pgs_drop (m : M) (out : List Str) (p : Str) : p ∈ (dropR m.rows out).map (·.pg) ↔ p ∈ m.pgs ∧ p ∉ out := by
  constructor
  · intro h
    obtain ⟨r, hr, rfl⟩ := List.mem_map.mp h
    rw [dropR, List.mem_filter] at hr
    exact ⟨List.mem_map_of_mem hr.1, of_decide_eq_true hr.2⟩
  · rintro ⟨h1, h2⟩
    obtain ⟨r, hr, rfl⟩ := List.mem_map.mp h1
    exact List.mem_map_of_mem (List.mem_filter.mpr ⟨hr, decide_eq_true h2⟩)
section
variable {K : PySem.W.Frag} {σ : L2.St} {H : Hp} {D : Ends} {tz tu tw : TS} {ta tb te : TE} {t : TT}
theorem q_ifPv {b : Bool} (Pv : L2.St → Hp → Prop) (ht : EvT t σ H b) (h1 : b = true → ∀ H1, Ex H H1 → ∀ nx : L2.St → Hp → Prop, (∀ σ' H', Pv σ' H' → nx σ' H') → tu { D with nx := nx } σ H1)
    (h2 : b = false → ∀ H1, Ex H H1 → ∀ nx : L2.St → Hp → Prop, (∀ σ' H', Pv σ' H' → nx σ' H') → tw { D with nx := nx } σ H1) (k : ∀ σ' H', Pv σ' H' → tz D σ' H') : tSeq (tIfS t tu tw) tz D σ H :=
  q_if ht (fun hb H1 e => h1 hb H1 e _ k) fun hb H1 e => h2 hb H1 e _ k
/-- out or () -/
theorem ew_orNil {v : V} {o : Option (List Str)} (h : Ev ta σ H v) (ho : OutV H v o) : EvW (tOrT K ta (tTup tNil)) σ H ((o.getD []).map V.str) := fun H1 e Q q => h H1 e _ fun H2 e2 => by
  cases o with
  | none =>
    cases ho
    exact ⟨false, rfl, Nat.zero_le _, fun p hp => q p _ (e2.trans (Ex.new hp)) upd_same⟩
  | some out =>
    obtain ⟨u, rfl, hu⟩ := ho
    have hu2 := e2 _ _ (e _ _ hu)
    cases out with
    | nil => exact ⟨false, .inr (.inl ⟨_, st_of hu2, rfl⟩), Nat.zero_le _, fun p hp => q p _ (e2.trans (Ex.new hp)) upd_same⟩
    | cons a l => exact ⟨true, .inr (.inl ⟨_, st_of hu2, rfl⟩), q u H2 e2 hu2⟩
theorem ev_noneN {v : V} {o : Option (List Str)} (h : Ev ta σ H v) (ho : OutV H v o) : Ev (tOp (fun x y H Q => y = .non ∧ Q (.bl (!decide (x = .non))) H) ta (tC .non)) σ H (.bl o.isSome) := by
  refine ev_is (ev_op h ev_c rv_notN) ?_
  cases o with
  | none => cases ho; rfl
  | some out => obtain ⟨u, rfl, hu⟩ := ho; rfl
theorem q_parVU {i j : Nat} {x : V} {ys : List V} (ha : Ev ta σ H x) (hb : EvU tb σ H ys) (k : ∀ u H1, Ex H H1 → H1 u = some (.tup ys) → tz D ((σ.set i (some x)).set j (some (.ref u))) H1) : tSeq (tPar i j (tCons ta (tCons tb tNil))) tz D σ H :=
  ha H (Ex.refl _) _ fun H1 e1 => hb H1 e1 _ fun u H2 _ e2 h2 => ⟨_, _, rfl, k u H2 (e1.trans e2) h2⟩
end
theorem OutV.tu {H H' : Hp} {v : V} {o : Option (List Str)} (h : OutV H v o) (e : Tu H H') : OutV H' v o := by
  cases o with
  | none => exact h
  | some out => obtain ⟨u, a, b⟩ := h; exact ⟨u, a, e _ _ b⟩
theorem nodup_len : ∀ {l l' : List Str}, l.Nodup → (∀ p ∈ l, p ∈ l') → l.length ≤ l'.length
  | [], _, _, _ => Nat.zero_le _
  | a :: l, l', hn, hs => by
    rw [List.nodup_cons] at hn
    have ha := hs a List.mem_cons_self
    have h := nodup_len (l := l) (l' := l'.erase a) hn.2 fun p hp => (List.mem_erase_of_ne (fun z => hn.1 (by rw [← z]; exact hp))).mpr (hs p (List.mem_cons_of_mem _ hp))
    rw [List.length_erase_of_mem ha] at h
    have : 1 ≤ l'.length := List.length_pos_of_mem ha
    rw [List.length_cons]
    omega
theorem mCs_more {K : PySem.W.Frag} {H : Hp} {m : Addr} {z : Szs} {M : M} {x : MX} {R : List HP} (S : Sat H (mCs K m z M x ++ R)) : Sat H (mCs K m z { M with dirt := M.dirt + 1 } x ++ R) :=
  S.setU 8 rfl ⟨S.machV.rs, Nat.le_succ_of_le S.machV.ds⟩

section
variable {P : Program} {w : World} {K : PySem.W.Frag} {mg : Str → Option Value} {base : Heap}
abbrev n_Alone_asked : List Str := ["self", "at", "kind", "path", "page", "hit", "size", "kept", "out", "need", "wrote", "start", "served"]
theorem sc_Alone_asked : FnScope n_Alone_asked ["self", "at", "kind", "path", "page"] (defScope s_Alone_asked) := C8.fnScope_by (by decide +kernel)
def sp_Alone_asked (K : PySem.W.Frag) : Sp := fun vs H Q _ => ∃ (m : Addr) (z : Szs) (M : M) (at_ : Int) (kind page : Str) (R : List HP), vs = [.ref m, .int at_, .str kind, .str "", .str page] ∧ Sat H (MachP K m z M :: R) ∧ MOk z M ∧ SzOk z ∧
  ∀ v dx o u s H', Sat H' (pt v (.ins (He.ga K "Move") dx (moveF (decide (page ∈ M.pgs)) (keptF z M page) o u s)) :: MachP K m z (reqF z M at_ page) :: R) → H' o = some (.tup ((outF z M page).map V.str)) → Tu H H' → Q (.ref v) H'
theorem ok_Alone_asked  (T : Ctx K mg) : C8.Met P w K mg base 5 (He.ga K "Alone") "asked" (sp_Alone_asked K) [] := by
  refine met_of T.f_Alone_asked (T.cls _ (by decide)) (T.met ("Alone", "asked") (by decide)) (N := n_Alone_asked) sc_Alone_asked (fun _ _ _ _ _ _ us hl => match us, hl with | [_, _, _, _, _], _ => rfl) (fun vs H Q E h => ?len) (fun cdv A outer s H vs Q E hr h => ?body)
  case len =>
    obtain ⟨_, _, _, _, _, _, _, rfl, _⟩ := h
    rfl
  case body =>
    obtain ⟨m, z, M, at_, kind, page, R, rfl, S, hM, hz, k⟩ := h
    refine ⟨_, (pss_cons (ps_fldK (K := K) (pv 0) (pv 1)) (pss_cons (ps_daug (hu_of hr) (pe_fldK (K := K) (pv 0)) pe_str pe_int in_add (fun _ _ _ => rfl)) (pss_cons (ps_set (i := 5) sc_Alone_asked.nd rfl (Or.inl rfl) (pe_cmp (pc_din (hu_of hr) (pv 4) (pe_fldK (K := K) (pv 0))) rfl)) (pss_cons (ps_set (i := 6) sc_Alone_asked.nd rfl (Or.inl rfl) (C8.pe_c (ok_size_in T) hr (by decide) (by rfl) (pa_cons (pe_fldK (K := K) (pv 0)) (pa_cons (pv 4) pa_nil)))) (pss_cons (ps_par (i := 7) (j := 8) (by rfl) sc_Alone_asked.nd rfl rfl (by decide) rfl rfl (pa_cons (pv 5) (pa_cons (pe_tup pa_nil) pa_nil)) (by rfl)) (pss_cons (ps_if (PW.pt (pw_or (pt_val (pv 5)) (pw_or1 (pt_cmpR op_le (pv 6) (pe_op op_sub (pe_fldK (K := K) (pv 0)) (C8.pe_mt0 (ok_Alone_pinned_size T) hr (by decide) (pv 0))) (by rfl))))) (pss_cons (ps_set (i := 9) sc_Alone_asked.nd rfl (Or.inl rfl) (pe_ifExp (pt_val (pv 5)) pe_int (pe_callB (call_max2 rfl) (by rfl) (T.free _ (by decide)) (by decide +kernel) (pa_cons pe_int (pa_cons (pe_op op_sub (pe_op op_add (pe_pr (ok_Alone_used T) hr (by decide) (pv 0)) (pv 6)) (pe_fldK (K := K) (pv 0))) pa_nil))))) (pss_cons (ps_set (i := 8) sc_Alone_asked.nd rfl (Or.inl rfl) (C8.pe_mt (ok_Alone_told T) hr (by decide) (pv 0) (pa_cons (pv 4) (pa_cons (pv 9) (pa_cons (pe_not (pv 5)) pa_nil))))) (pss_one (ps_set (i := 7) sc_Alone_asked.nd rfl (Or.inl rfl) (pe_cmpR op_notN (pv 8) pe_non (by rfl)))))) pss_nil) (pss_cons (ps_set (i := 10) sc_Alone_asked.nd rfl (Or.inl rfl) (C8.pe_mt (ok_Alone_thrown T) hr (by decide) (pv 0) (pa_cons (pe_orTK (K := K) (pv 8) (pe_one (pe_tup pa_nil))) pa_nil))) (pss_cons (ps_expr (C8.pe_mt (ok_Alone_count T) hr (by decide) (pv 0) (pa_cons (pv 5) pa_nil))) (pss_cons (ps_if (pt_val (pv 7)) (pss_one (ps_expr (C8.pe_mt (ok_Alone_note T) hr (by decide) (pv 0) (pa_cons (pv 4) (pa_cons (pv 1) (pa_cons (pv 5) pa_nil)))))) pss_nil) (pss_cons (ps_if (PW.pt (pw_and (pt_cmpR op_eq (pv 2) pe_str (by rfl)) (pw_and1 (pt_val (pv 7))))) (pss_one (ps_dput (hu_of hr) (pe_fldK (K := K) (pv 0)) (pv 4) pe_bl rfl)) (pss_one (ps_if (pt_cmpR op_eq (pv 2) pe_str (by rfl)) (pss_one (ps_expr (pe_bmK (K := K) PySem.F.plainAttrs_list PySem.F.slot_list_append PySem.F.type_list_append mt_append (pv 10) (pa_cons (pv 4) pa_nil)))) pss_nil))) (pss_cons (ps_daug (hu_of hr) (pe_fldK (K := K) (pv 0)) pe_str (pe_callB (call_len_seqK (K := K)) (by rfl) (T.free _ (by decide)) (by decide +kernel) (pa_cons (pv 10) pa_nil)) in_add (fun _ _ _ => rfl)) (pss_cons (ps_set (i := 11) sc_Alone_asked.nd rfl (Or.inl rfl) (pe_ifExp (pt_val (pv 7)) (pe_slK (K := K) (pe_dget (hu_of hr) (pe_fldK (K := K) (pv 0)) (pv 4) (fun _ _ => rfl))) (pv 1))) (pss_cons (ps_set (i := 12) sc_Alone_asked.nd rfl (Or.inl rfl) (pe_callB (call_max2 rfl) (by rfl) (T.free _ (by decide)) (by decide +kernel) (pa_cons (pe_op op_add (pv 11) (pe_ix (ix_tupK (K := K)) (pe_fldK (K := K) (pv 0)) pe_int (fun _ _ => rfl))) (pa_cons (pe_op op_add (pv 1) (pe_op op_mul (pe_ix (ix_tupK (K := K)) (pe_fldK (K := K) (pv 0)) pe_int (fun _ _ => rfl)) (pe_callB (call_len_seqK (K := K)) (by rfl) (T.free _ (by decide)) (by decide +kernel) (pa_cons (pv 10) pa_nil)))) pa_nil)))) (pss_one (ps_ret (C8.pe_mk (ok_Move_init T) hr (by decide) (by rfl) (pa_cons (pv 5) (pa_cons (pv 7) (pa_cons (pe_orTK (K := K) (pv 8) (pe_one (pe_tup pa_nil))) (pa_cons (pv 10) (pa_cons (pv 12) pa_nil))))))))))))))))))))), ?_⟩
    have c := T.cls "Alone" (by decide)
    obtain ⟨x, S⟩ := MachP.open_.mp S
    have h := S.machV
    have hlen := hM.len hz
    have hO := hM.entsOk hz
    refine q_fld (ev_var rfl) (ev_var rfl) h.ins c (T.noat ("Alone", "own_moment") (by decide)) mF_len fun H1 e1 => ?_
    rw [mF_putM]
    have S1 := mCs_moment (n := at_) (S.same e1)
    have t1 : Tu H (upd H1 m (.ins (He.ga K "Alone") x.dx (mF K { M with moment := at_ } x))) := (Ex.tu e1).trans (Tu.upd (S.same e1).machV.ins)
    refine q_cnt (s := "requests") (u := M.reqs) (v := 1) (n := M.reqs + 1) (a' := x.hits) (b' := x.reads) (c' := x.writes) (d' := x.broken) c (T.noat ("Alone", "own_counts") (by decide)) S1 rfl ev_c ev_c rfl rfl fun H2 S2 t2 => ?_
    have h2 := S2.machV
    refine q_asg (v := .bl (decide (page ∈ M.pgs))) (ev_is (et_dIn (k := .str page) (ev_var rfl) (ev_fld (ev_var rfl) h2.ins c (T.noat ("Alone", "own_rows") (by decide)) mF_rows) (DGet.k (k := .inr page) h2.rows)) (by rw [rowK_some, h2.rs]; rfl)) fun H3 e3 => ?_
    refine q_asg (v := .int (szOf z page)) (ev_callV (ea_cons (ev_fld (ev_var rfl) (e3 _ _ h2.ins) c (T.noat ("Alone", "own_sizes") (by decide)) mF_sizes) (ea_cons (ev_var rfl) ea_nil)) fun H5 e5 Q q => ⟨x.szs, z, page, rfl, e5 _ _ (e3 _ _ h2.szs), q⟩) fun H4 e4 => ?_
    refine q_parVU (x := .bl (decide (page ∈ M.pgs))) (ys := []) (ev_var rfl) (eu_tup ea_nil (Nat.zero_le _)) fun u0 H5 e5 hu5 => ?_
    have e24 := (e3.trans e4).trans e5
    have S5 := S2.same e24
    have t5 : Tu H H5 := (t1.trans t2).trans (Ex.tu e24)
    have h5 := S5.machV
    have evp : ∀ σ : L2.St, σ[0]? = some (some (.ref m)) → Ev (tMeth (He.ga K "Alone") "pinned_size" (sp_Alone_pinned_size K) [] C8.E0 (tVar 0) tNil) σ H5 (.int 0) := fun σ hσ H6 e6 Q q => ⟨_, hσ, m, x.dx, _, rfl, e6 _ _ h5.ins, rfl, m, z, _, _, rfl, h5.ex e6, fun H7 e7 => q H7 e7⟩
    refine q_ifPv (b := asksF z M page) (fun σ' H' => ∃ (kept : Bool) (ov : V) (o : Option (List Str)) (n9 : Option V) (st2 : RSt) (x2 : MX), σ' = [some (.ref m), some (.int at_), some (.str kind), some (.str ""), some (.str page), some (.bl (decide (page ∈ M.pgs))), some (.int (szOf z page)), some (.bl kept), some ov, n9, none, none, none] ∧
      Sat H' (mCs K m z { M with moment := at_, reqs := M.reqs + 1, st := st2 } x2 ++ R) ∧ Tu H H' ∧ OutV H' ov o ∧ o.getD [] = outF z M page ∧ kept = keptF z M page ∧ st2 = if asksF z M page = true then (toldF z M page).1 else M.st) ?_ ?_ ?_ ?_
    · refine et_is (et_or (et_B (ev_var rfl)) fun _ => et_test (ev_op (ev_var rfl) (ev_op (ev_fld (ev_var rfl) h5.ins c (T.noat ("Alone", "own_share") (by decide)) mF_share) (evp _ rfl) rv_I0) rv_I0)) ?_
      unfold asksF
      congr 1
      apply decide_eq_decide.mpr
      show szOf z page ≤ M.share - 0 ↔ _
      rw [Int.sub_zero]
    · intro hb H6 e6 nx hnx
      have S6 := S5.same e6
      have h6 := S6.machV
      have hu6 : M.used z = usedR z M.rows := rfl
      refine q_asg (v := .int (needF z M page)) (ev_if (b := decide (page ∈ M.pgs)) (et_B (ev_var rfl)) (fun h => ?_) fun h => ?_) fun H7 e7 => ?_
      · have h := of_decide_eq_true h
        unfold needF
        rw [if_pos h]
        exact ev_c
      · have h := of_decide_eq_false h
        unfold needF
        rw [if_neg h]
        refine ev_max2 ev_c (ev_op (ev_op (fun H8 e8 Q q => ?_) (ev_var rfl) rv_I0) (ev_fld (ev_var rfl) h6.ins c (T.noat ("Alone", "own_share") (by decide)) mF_share) rv_I0)
        exact ⟨_, rfl, m, x.dx, _, rfl, e8 _ _ h6.ins, m, z, _, _, rfl, h6.ex e8, by show M.rows.length ≤ 100; omega, fun H9 e9 => q H9 e9⟩
      · have S7 := S6.same e7
        refine q_asgD ?_
        refine ⟨_, rfl, m, x.dx, _, rfl, S7.machV.ins, rfl, (ea_cons (ev_var rfl) (ea_cons (ev_var rfl) (ea_cons (ev_notV (ev_var rfl)) ea_nil))) H7 (Ex.refl _) _ fun H8 e8 => ?_⟩
        have S8 := S7.same e8
        refine ⟨m, z, _, page, needF z M page, !decide (page ∈ M.pgs), R, rfl, MachP.open_.mpr ⟨_, S8⟩, hM.rule, hO, hM.st.mono (by have := hM.reqs.2; omega), fun ov H9 S9 t9 ho9 => ?_⟩
        have ho9 : OutV H9 ov (toldF z M page).2.1 := ho9
        obtain ⟨x9, S9⟩ := MachP.open_.mp S9
        refine s_asg (ev_noneN (ev_var rfl) ho9) fun H10 e10 => hnx _ _ ⟨_, ov, (toldF z M page).2.1, _, (toldF z M page).1, x9, rfl, S9.same e10, ((t5.trans (Ex.tu ((e6.trans e7).trans e8))).trans t9).trans (Ex.tu e10), ho9.ex e10, ?_, ?_, ?_⟩
        · unfold outF
          rw [if_pos hb]
        · unfold keptF
          rw [hb]
          rfl
        · rw [if_pos hb]
    · intro hb H6 e6 nx hnx
      have hn : page ∉ M.pgs := fun hp => by
        unfold asksF at hb
        rw [decide_eq_true hp] at hb
        cases hb
      refine hnx _ _ ⟨_, .ref u0, some [], _, M.st, x, rfl, S5.same e6, t5.trans (Ex.tu e6), ⟨u0, rfl, e6 _ _ hu5⟩, ?_, ?_, ?_⟩
      · unfold outF
        rw [if_neg (by rw [hb]; decide)]
        rfl
      · unfold keptF
        rw [hb, decide_eq_false hn]
        rfl
      · rw [if_neg (by rw [hb]; decide)]
    rintro σ' H6 ⟨kept, ov, o, n9, st2, x6, rfl, S6, t6, ho6, hout, hkept, hst2⟩
    have hok := outF_ok (z := z) (page := page) hM.nodup
    have h6 := S6.machV
    -- the pages that go
    refine q_asgD ?_
    refine ⟨_, rfl, m, x6.dx, _, rfl, h6.ins, rfl, ew_orNil (ev_var rfl) ho6 H6 (Ex.refl _) _ fun u7 H7 e7 hu7 => ?_⟩
    rw [hout] at hu7
    have hol : (outF z M page).length ≤ 100 := by
      have h1 := hok.1
      have h2 : (outF z M page).length ≤ M.pgs.length := nodup_len h1 fun p hp => (hok.2 p hp).1
      have h3 : M.pgs.length = M.rows.length := List.length_map _
      omega
    refine ⟨m, u7, z, { M with moment := at_, reqs := M.reqs + 1, st := st2 }, outF z M page, R, rfl, hu7, hok.1, fun p hp => (hok.2 p hp).1, hol, MachP.open_.mpr ⟨_, S6.same e7⟩, fun w ws H8 S8 t8 hwl => ?_⟩
    obtain ⟨x8, S8⟩ := MachP.open_.mp S8
    have t8' := (t6.trans (Ex.tu e7)).trans t8
    have ho8 : OutV H8 ov o := ho6.tu ((Ex.tu e7).trans t8)
    -- counted
    refine ⟨_, rfl, m, x8.dx, _, rfl, S8.machV.ins, rfl, _, rfl, m, z, _, decide (page ∈ M.pgs), _, rfl, MachP.open_.mpr ⟨_, S8⟩, fun H9 S9 t9 => ?_⟩
    have t9' := t8'.trans t9
    have ho9 := ho8.tu t9
    -- noted
    have hpg : (page ∈ (dropR M.rows (outF z M page)).map (·.pg)) ↔ page ∈ M.pgs := by
      rw [pgs_drop]
      exact ⟨fun h => h.1, fun h => ⟨h, fun hp => (hok.2 page hp).2 rfl⟩⟩
    let M8 : N32.M := { M with moment := at_, reqs := M.reqs + 1, st := st2, rows := if kept = true then (if page ∈ M.pgs then useR (dropR M.rows (outF z M page)) page (M.reqs + 1) else dropR M.rows (outF z M page) ++ [⟨page, M.reqs + 1, M.reqs + 1, 1, at_⟩]) else dropR M.rows (outF z M page) }
    refine q_ifPv (b := kept) (fun σ' H' => σ' = [some (.ref m), some (.int at_), some (.str kind), some (.str ""), some (.str page), some (.bl (decide (page ∈ M.pgs))), some (.int (szOf z page)), some (.bl kept), some ov, n9, some (.ref w), none, none] ∧
      Sat H' (MachP K m z M8 :: pt w (.lst ws) :: R) ∧ Tu H H' ∧ OutV H' ov o) (et_B (ev_var rfl)) ?_ ?_ ?_
    · intro hb H10 e10 nx hnx
      obtain ⟨x9, S9⟩ := MachP.open_.mp S9
      have S10 := S9.same e10
      refine ⟨_, rfl, m, x9.dx, _, rfl, S10.machV.ins, rfl, _, rfl, _, rfl, _, rfl, m, z, _, page, at_, _, ?_, MachP.open_.mpr ⟨_, S10⟩, ?_, ?_, fun H11 S11 t11 => hnx _ _ ⟨rfl, ?_, (t9'.trans (Ex.tu e10)).trans t11, (ho9.ex e10).tu t11⟩⟩
      · show [V.ref m, .str page, .int at_, .bl (decide (page ∈ M.pgs))] = [V.ref m, .str page, .int at_, .bl (decide (page ∈ (dropR M.rows (outF z M page)).map (·.pg)))]
        rw [decide_eq_decide.mpr hpg]
      · exact (hM.nodup.sublist (List.Sublist.map _ List.filter_sublist))
      · exact Nat.le_trans (List.length_filter_le _ _) (show M.rows.length ≤ 100 by omega)
      · have e : M8 = { M with moment := at_, reqs := M.reqs + 1, st := st2, rows := if page ∈ (dropR M.rows (outF z M page)).map (·.pg) then useR (dropR M.rows (outF z M page)) page (M.reqs + 1) else dropR M.rows (outF z M page) ++ [⟨page, M.reqs + 1, M.reqs + 1, 1, at_⟩] } := by
          show ({ M with moment := at_, reqs := M.reqs + 1, st := st2, rows := if kept = true then _ else _ } : N32.M) = _
          rw [if_pos hb]
          by_cases hp : page ∈ M.pgs
          · rw [if_pos hp, if_pos (hpg.mpr hp)]
          · rw [if_neg hp, if_neg fun z => hp (hpg.mp z)]
        rw [e]
        exact S11
    · intro hb H10 e10 nx hnx
      refine hnx _ _ ⟨rfl, ?_, t9'.trans (Ex.tu e10), ho9.ex e10⟩
      have e : M8 = { M with moment := at_, reqs := M.reqs + 1, st := st2, rows := dropR M.rows (outF z M page) } := by
        show ({ M with moment := at_, reqs := M.reqs + 1, st := st2, rows := if kept = true then _ else _ } : N32.M) = _
        rw [if_neg (by rw [hb]; decide)]
      rw [e]
      exact S9.same e10
    rintro σ' H10 ⟨rfl, S10, t10, ho10⟩
    have hM8 : { M8 with dirt := M8.dirt + 1 } = reqF z M at_ page := by
      show ({ M with moment := at_, reqs := M.reqs + 1, st := st2, rows := _, dirt := M.dirt + 1 } : N32.M) = _
      unfold reqF
      rw [← hst2, ← hkept]
    have hkp : kept = true → page ∈ M8.pgs := fun hb => by
      show page ∈ (if kept = true then _ else _ : List RowD).map (·.pg)
      rw [if_pos hb]
      by_cases hp : page ∈ M.pgs
      · rw [if_pos hp]
        have : (useR (dropR M.rows (outF z M page)) page (M.reqs + 1)).map (·.pg) = (dropR M.rows (outF z M page)).map (·.pg) := by
          unfold useR
          rw [List.map_map]
          apply List.map_congr_left
          intro r _
          show (if r.pg = page then _ else r : RowD).pg = r.pg
          split <;> rfl
        rw [this]
        exact hpg.mpr hp
      · rw [if_neg hp]
        simp
    have hd8 : M8.dirt ≤ 100 := by
      show M.dirt ≤ 100
      have h1 := hM.dirt
      have h2 := hM.reqs.2
      omega
    rw [← hM8, ← hkept] at k
    generalize M8 = M8 at *
    -- dirty pages
    refine q_ifPv (b := decide (kind = "write") && kept) (fun σ' H' => σ' = [some (.ref m), some (.int at_), some (.str kind), some (.str ""), some (.str page), some (.bl (decide (page ∈ M.pgs))), some (.int (szOf z page)), some (.bl kept), some ov, n9, some (.ref w), none, none] ∧
      ∃ ws' : List V, Sat H' (MachP K m z { M8 with dirt := M8.dirt + 1 } :: pt w (.lst ws') :: R) ∧ ws'.length ≤ 101 ∧ Tu H H' ∧ OutV H' ov o) (et_and (et_test (ev_op (ev_var rfl) ev_c (rv_eq2 rfl (dstr _ _)))) fun _ => et_B (ev_var rfl)) ?_ ?_ ?_
    · intro hb H11 e11 nx hnx
      obtain ⟨x10, S10⟩ := MachP.open_.mp S10
      have S11 := mCs_more (S10.same e11)
      have h11 := S11.machV
      have hds := (S10.machV).ds
      have hdl : (putK x10.ds (.inr page) (V.bl true)).length ≤ M8.dirt + 1 := by
        have := length_putK x10.ds (.inr page) (V.bl true)
        omega
      exact ⟨_, rfl, m, _, x10.dx, _, .ref x10.dirty, rfl, h11.ins, c, T.noat ("Alone", "own_dirty") (by decide), mF_dirty, _, rfl, x10.dirty, _, rfl, DPut.k (k := .inr page) h11.dirty (sz_lt (by omega)),
        hnx _ _ ⟨rfl, ws, MachP.open_.mpr ⟨_, mCs_dirty S11 hdl⟩, by omega, (t10.trans (Ex.tu e11)).trans (Tu.upd h11.dirty), (ho10.ex e11).tu (Tu.upd h11.dirty)⟩⟩
    · intro hb H11 e11 nx hnx
      have S11 : Sat H11 (MachP K m z { M8 with dirt := M8.dirt + 1 } :: pt w (.lst ws) :: R) := by
        obtain ⟨x10, S10⟩ := MachP.open_.mp S10
        exact MachP.open_.mpr ⟨_, mCs_more (S10.same e11)⟩
      refine s_when (b := decide (kind = "write")) (et_test (ev_op (ev_var rfl) ev_c (rv_eq2 rfl (dstr _ _)))) (fun h2 H12 e12 => ?_) fun h2 H12 e12 => hnx _ _ ⟨rfl, ws, S11.same e12, by omega, (t10.trans (Ex.tu e11)).trans (Ex.tu e12), (ho10.ex e11).ex e12⟩
      have S12 := S11.same e12
      refine s_app (S12.get 1 rfl) (ev_var rfl) (ev_var rfl) (by omega) fun H13 e13 => hnx _ _ ⟨rfl, ws ++ [.str page], (S12.same e13).put 1 rfl, ?_, ?_, ?_⟩
      · rw [List.length_append, List.length_singleton]; omega
      · exact ((t10.trans (Ex.tu e11)).trans (Ex.tu (e12.trans e13))).trans (Tu.upd ((S12.same e13).get 1 rfl))
      · exact ((ho10.ex e11).ex (e12.trans e13)).tu (Tu.upd ((S12.same e13).get 1 rfl))
    rintro σ' H11 ⟨rfl, ws', S11, hwl', t11, ho11⟩
    have hkp' : kept = true → page ∈ ({ M8 with dirt := M8.dirt + 1 } : N32.M).pgs := hkp
    generalize ({ M8 with dirt := M8.dirt + 1 } : N32.M) = M9 at S11 hkp' k
    obtain ⟨x11, S11⟩ := MachP.open_.mp S11
    have hw11 : H11 w = some (.lst ws') := S11.fore.get 0 rfl
    refine q_cnt (s := "writes") (u := x11.writes) (v := (ws'.length : Int)) (n := M9.reqs) (a' := x11.hits) (b' := x11.reads) (c' := x11.writes + (ws'.length : Int)) (d' := x11.broken) c (T.noat ("Alone", "own_counts") (by decide)) S11 rfl ev_c (ev_len (ev_var rfl) (sq_of hw11)) rfl rfl fun H12 S12 t12 => ?_
    have h12 := S12.machV
    have hw12 : H12 w = some (.lst ws') := S12.fore.get 0 rfl
    obtain ⟨s, hs⟩ : ∃ s : Int, Ev (tIf (tB (tVar 7)) (SlX.tSl K (tDGet (tFld K (tVar 0) "own_rows") (tVar 4)) "start") (tVar 1)) [some (.ref m), some (.int at_), some (.str kind), some (.str ""), some (.str page), some (.bl (decide (page ∈ M.pgs))), some (.int (szOf z page)), some (.bl kept), some ov, n9, some (.ref w), none, none] H12 (.int s) := by
      cases kept with
      | false => exact ⟨at_, ev_if (et_B (ev_var rfl)) (fun h => nomatch h) fun _ => ev_var rfl⟩
      | true =>
        have hm : page ∈ (x11.rs.map (·.r)).map (·.pg) := by
          rw [S11.machV.rs]
          exact hkp' rfl
        obtain ⟨l1, y, l2, er, ep, el, ev⟩ := rowK_find hm
        have hy := h12.row y (by show y ∈ x11.rs; rw [er]; simp)
        refine ⟨y.r.start, ev_if (et_B (ev_var rfl)) (fun _ => ev_sl (ev_dget (k := .str page) (v := .ref y.p) (ev_fld (ev_var rfl) h12.ins c (T.noat ("Alone", "own_rows") (by decide)) mF_rows) (ev_var rfl) ?_) (.inr hy) T.rowC (T.rowS ("start", 2) (by decide)) rfl) fun h => nomatch h⟩
        rw [← ev]
        exact DGet.k (k := .inr page) h12.rows
    refine q_asg hs fun H13 e13 => ?_
    have h13 := h12.ex e13
    have S13 := S12.same e13
    have hw13 := e13 _ _ hw12
    have tkE : ∀ σ : L2.St, σ[0]? = some (some (.ref m)) → ∀ i : Int, atI [V.int 0, .int 0] i = some (.int 0) → Ev (tOp (rIxT K) (tFld K (tVar 0) "own_ticks") (tC (.int i))) σ H13 (.int 0) := fun σ hσ i hi => ev_op (ev_fld (ev_var hσ) h13.ins c (T.noat ("Alone", "own_ticks") (by decide)) mF_ticks) ev_c (rv_ixT (st_of h13.tk) hi)
    refine q_asg (ev_max2 (ev_op (ev_var rfl) (tkE _ rfl 0 rfl) rv_I0) (ev_op (ev_var rfl) (ev_op (tkE _ rfl 1 rfl) (ev_len (ev_var rfl) (sq_of hw13)) (rv_I (Or.inl ⟨by decide, by decide⟩))) rv_I0)) fun H14 e14 => ?_
    have S14 := S13.same e14
    refine ⟨_, rfl, _, rfl, ew_orNil (ev_var rfl) ((ho11.tu t12).ex (e13.trans e14)) H14 (Ex.refl _) _ fun u15 H15 e15 hu15 => ⟨_, rfl, _, rfl, fun v dx hv hdx hne => ?_⟩⟩
    rw [hout] at hu15
    have S15 := S14.same e15
    have e16 : Ex H15 (upd (upd H15 dx (.own v)) v (.ins (He.ga K "Move") dx [])) := (Ex.new (o := .own v) hdx).trans (Ex.new (by rw [upd_ne hne.symm]; exact hv))
    refine ⟨v, dx, u15, w, _, kept, _, _, ws', _, rfl, S15.made (C := He.ga K "Move") hv hdx hne, e16 _ _ hu15, e16 _ _ (e15 _ _ (e14 _ _ hw13)), fun u16 H16 S16 t16 => ⟨rfl, ?_⟩⟩
    have S17 := MachP.open_.mpr ⟨_, S16.back⟩
    exact k v dx u15 u16 _ H16 (S17.swap.sub (((List.sublist_cons_self _ _).cons_cons _).cons_cons _)) (t16 _ _ (e16 _ _ hu15)) ((((t11.trans t12).trans (Ex.tu ((e13.trans e14).trans e15))).trans (Ex.tu e16)).trans t16)
end
section
variable {P : Program} {w : World} {K : PySem.W.Frag} {mg : Str → Option Value} {base : Heap}
abbrev n_Alone_request : List Str := ["self", "at", "kind", "page"]
theorem sc_Alone_request : FnScope n_Alone_request ["self", "at", "kind", "page"] (defScope s_Alone_request) := C8.fnScope_by (by decide +kernel)
def sp_Alone_request (K : PySem.W.Frag) : Sp := fun vs H Q _ => ∃ (m : Addr) (z : Szs) (M : M) (at_ : Int) (kind page : Str) (R : List HP), vs = [.ref m, .int at_, .str kind, .str page] ∧ Sat H (MachP K m z M :: R) ∧ MOk z M ∧ SzOk z ∧ M.moment ≤ at_ ∧ at_ ≤ 1000000000 ∧ (kind = "read" ∨ kind = "write") ∧ page ∈ pagesL ∧
  ∀ v dx o u s H', Sat H' (pt v (.ins (He.ga K "Move") dx (moveF (decide (page ∈ M.pgs)) (keptF z M page) o u s)) :: MachP K m z (reqF z M at_ page) :: R) → H' o = some (.tup ((outF z M page).map V.str)) → Tu H H' → Q (.ref v) H'
theorem ok_Alone_request  (T : Ctx K mg) : C8.Met P w K mg base 6 (He.ga K "Alone") "request" (sp_Alone_request K) [] := by
  refine met_of T.f_Alone_request (T.cls _ (by decide)) (T.met ("Alone", "request") (by decide)) (N := n_Alone_request) sc_Alone_request (fun _ _ _ _ _ _ us hl => match us, hl with | [_, _, _, _], _ => rfl) (fun vs H Q E h => ?len) (fun cdv A outer s H vs Q E hr h => ?body)
  case len =>
    obtain ⟨_, _, _, _, _, _, _, rfl, _⟩ := h
    rfl
  case body =>
    obtain ⟨m, z, M, at_, kind, page, R, rfl, S, hM, hz, ha1, ha2, hk, hp, k⟩ := h
    refine ⟨_, (pss_cons (ps_expr (C8.pe_c (ok_check_number T) hr (by decide) (by rfl) (pa_cons (pv 1) (pa_cons (pe_fldK (K := K) (pv 0)) (pa_cons (C8.pe_gc (v := .int 1000000000) (by rfl) (const_of T.mostNumber)) pa_nil))))) (pss_cons (ps_expr (C8.pe_c (ok_check_kind T) hr (by decide) (by rfl) (pa_cons (pv 2) pa_nil))) (pss_cons (ps_expr (C8.pe_c (ok_check_page T) hr (by decide) (by rfl) (pa_cons (pv 3) pa_nil))) (pss_one (ps_ret (C8.pe_mt (ok_Alone_asked T) hr (by decide) (pv 0) (pa_cons (pv 1) (pa_cons (pv 2) (pa_cons pe_str (pa_cons (pv 3) pa_nil)))))))))), ?_⟩
    have c := T.cls "Alone" (by decide)
    obtain ⟨x, S⟩ := MachP.open_.mp S
    have h := S.machV
    refine q_drop (ev_callV (ea_cons (ev_var rfl) (ea_cons (ev_fld (ev_var rfl) h.ins c (T.noat ("Alone", "own_moment") (by decide)) mF_moment) (ea_cons ev_c ea_nil))) fun H1 _ Q q => ⟨at_, M.moment, 1000000000, rfl, ha1, ha2, q⟩) fun H1 e1 => ?_
    refine q_drop (ev_callV (ea_cons (ev_var rfl) ea_nil) fun H1 _ Q q => ⟨kind, rfl, hk, q⟩) fun H2 e2 => ?_
    refine q_drop (ev_callV (ea_cons (ev_var rfl) ea_nil) fun H1 _ Q q => ⟨page, rfl, hp, q⟩) fun H3 e3 => ?_
    have S3 := S.same ((e1.trans e2).trans e3)
    refine ⟨_, rfl, m, x.dx, _, rfl, S3.machV.ins, rfl, _, rfl, _, rfl, _, rfl, m, z, M, at_, kind, page, R, rfl, MachP.open_.mpr ⟨_, S3⟩, hM, hz, fun v dx o u s H' S' ho t' => k v dx o u s H' S' ho ((Ex.tu ((e1.trans e2).trans e3)).trans t')⟩
end
end N32
set_option Elab.async false
set_option linter.all false
set_option maxRecDepth 100000
set_option maxHeartbeats 4000000

namespace N32
open PySem PySem.Spec PyProof.Rows L2 Evl
section
variable {P : Program} {w : World} {K : PySem.W.Frag} {mg : Str → Option Value} {base : Heap}
/-- C(e, .., k = v, ..) by its __init__ -/
theorem makK_of {C qual : Str} {st : Stmt} {f : Addr} {N ps ks : List Str} {kws ms : List (Str × V)} {k n : Nat} {sp : Sp} (g : {α : Type} → List α → List α → List α → List α)
    (F : ∃ fd, FunD K "__init__" qual (defArgs st) (defBody st) (defScope st) [] kws f fd) (M : Mk K (He.ga K C) f) (hm : mg C = some (.ref (He.ga K C))) (S : FnScope N ps (defScope st)) (hk : kws ≠ []) (hms : ∀ q ∈ ms, q ∈ kws)
    (hrel : ∀ {vs mz zs : List V} {us mv ws : List Value}, Vals vs us → Vals mz mv → Vals zs ws → Vals (g vs mz zs) (g us mv ws))
    (hch : ∀ (D : Addr) (doc pm : Value) (an : Option Addr) (cdv ct : Value) (us mv ws : List Value), us.length = n + 1 → mv.length = ms.length → ws.length = ks.length →
      KwChain D ((ms.map (·.1)).zip mv) (bindArgs (PySem.W.fnOf "__init__" qual (defArgs st) (defBody st) (defScope st) .none (.ref D) doc pm an cdv ct) ⟨us, ks.zip ws⟩) (ps.zip (g us mv ws)))
    (len : ∀ vs H Q E, sp vs H Q E → vs.length = ps.length)
    (hbody : ∀ (cdv : Value) (A : Around) (outer : List Env) (s : Shared) (H : Hp) (vs : List V) (Q : VK) (E : XK), Room k (A.deeper (envOfC qual (defScope st) s.heap.objs.size f cdv)) → sp vs H Q E →
      ∃ t, PSs (cxOf C8.CX0 P w K mg base N qual (defScope st) f cdv A outer s H E).nox (defBody st) t ∧ t { nx := fun _ H' => Q .non H', rt := Q } (start N vs) H) : MakK P w K mg base (k + 1) C (He.ga K C) n ks sp (fun vs zs => g vs (ms.map (·.2)) zs) := by
  obtain ⟨fd, F⟩ := F
  obtain ⟨mv, hb⟩ := F.kbinds0 (n + 1) ks ms g hk hms hrel hch
  refine ⟨f, fd, ps, _, M, F.ok S len (fun cdv A outer s H vs Q E hr h => ?_), hm, hb⟩
  obtain ⟨t, h1, h2⟩ := hbody cdv A outer s H vs Q E hr h
  exact ⟨t, h1.nox, h2⟩
end

section
variable {K : PySem.W.Frag} {σ : L2.St} {H : Hp} {ta tb te tv : TE} {D : Ends} {tz : TS} {y : V} {R : List HP}
/-- it comes to a new object -/
def EvO2 (te : TE) (σ : L2.St) (H : Hp) (o : HO) : Prop := ∀ H1, Ex H H1 → ∀ Q : VK, (∀ p H2, H1 p = none → Ex H1 H2 → H2 p = some o → Q (.ref p) H2) → te σ H1 Q
theorem q_fldNew {a C dx : Addr} {fs : List (Str × V)} {f : Str} {o : HO} (hv : EvO2 tv σ H o) (ha : Ev ta σ H (.ref a)) (S : Sat H (pt a (.ins C dx fs) :: R)) (c : Cls K C) (n : NoAttr K C f) (hl : fs.length < 1000) (no : ¬ isTup o)
    (k : ∀ p H', Sat H' (pt a (.ins C dx (putF f (.ref p) fs)) :: pt p o :: R) → Tu H H' → tz D σ H') : tSeq (sFld K ta tv f) tz D σ H :=
  hv H (Ex.refl _) _ fun p H1 hp e1 h1 => ha H1 e1 _ fun H2 e2 => by
    have S2 := (S.grow hp (e1.trans e2) (e2 _ _ h1) no).swap
    exact ⟨a, C, dx, fs, rfl, S2.get 0 rfl, c, n, hl, k p _ (S2.put 0 rfl) ((Ex.tu (e1.trans e2)).trans (Tu.upd (S2.get 0 rfl)))⟩
theorem q_fldS {a C dx : Addr} {fs : List (Str × V)} {f : Str} (hv : Ev tv σ H y) (ha : Ev ta σ H (.ref a)) (S : Sat H (pt a (.ins C dx fs) :: R)) (c : Cls K C) (n : NoAttr K C f) (hl : fs.length < 1000)
    (k : ∀ H', Sat H' (pt a (.ins C dx (putF f y fs)) :: R) → Tu H H' → tz D σ H') : tSeq (sFld K ta tv f) tz D σ H :=
  q_fld hv ha (S.get 0 rfl) c n hl fun H1 e1 => k _ ((S.same e1).put 0 rfl) ((Ex.tu e1).trans (Tu.upd ((S.same e1).get 0 rfl)))
theorem s_fldS {a C dx : Addr} {fs : List (Str × V)} {f : Str} (hv : Ev tv σ H y) (ha : Ev ta σ H (.ref a)) (S : Sat H (pt a (.ins C dx fs) :: R)) (c : Cls K C) (n : NoAttr K C f) (hl : fs.length < 1000)
    (k : ∀ H', Sat H' (pt a (.ins C dx (putF f y fs)) :: R) → Tu H H' → D.nx σ H') : sFld K ta tv f D σ H :=
  s_fld hv ha (S.get 0 rfl) c n hl fun H1 e1 => k _ ((S.same e1).put 0 rfl) ((Ex.tu e1).trans (Tu.upd ((S.same e1).get 0 rfl)))
theorem q_fldU {a C dx : Addr} {fs : List (Str × V)} {f : Str} {xs : List V} (hv : EvW tv σ H xs) (ha : Ev ta σ H (.ref a)) (S : Sat H (pt a (.ins C dx fs) :: R)) (c : Cls K C) (n : NoAttr K C f) (hl : fs.length < 1000)
    (k : ∀ u H', Sat H' (pt a (.ins C dx (putF f (.ref u) fs)) :: R) → Tu H H' → H' u = some (.tup xs) → tz D σ H') : tSeq (sFld K ta tv f) tz D σ H :=
  hv H (Ex.refl _) _ fun u H1 e1 h1 => ha H1 e1 _ fun H2 e2 => by
    have S2 := S.same (e1.trans e2)
    exact ⟨a, C, dx, fs, rfl, S2.get 0 rfl, c, n, hl, k u _ (S2.put 0 rfl) ((Ex.tu (e1.trans e2)).trans (Tu.upd (S2.get 0 rfl))) (Tu.upd (S2.get 0 rfl) (fun z => z) _ _ (e2 _ _ h1))⟩
theorem eo_newT : EvO2 tDNewT σ H (.dT []) := fun H1 e Q q => fun p hp => q p _ hp (Ex.new hp) upd_same
theorem eo_newK : EvO2 tDNewK σ H (.dK []) := fun H1 e Q q => fun p hp => q p _ hp (Ex.new hp) upd_same
theorem eo_nil2 : EvO2 (tLst tNil) σ H (.lst []) := fun H1 e Q q => ⟨Nat.zero_le _, fun p hp => q p _ hp (Ex.new hp) upd_same⟩
theorem eo_L {xs : List V} (h : EvL te σ H xs) : EvO2 te σ H (.lst xs) := h
/-- {} if x is None else dict(x) -/
theorem eo_dict {d : Addr} {kvs : List (Key × V)} (h : Ev te σ H (.ref d)) (hd : H d = some (.dK kvs)) :
    EvO2 (tIf (tTest (tOp (fun x y H Q => y = .non ∧ Q (.bl (decide (x = .non))) H) te (tC .non))) tDNewK (tCB (fun xs H Q => ∃ (a : Addr) (kvs : List (Key × V)), xs = [.ref a] ∧ Rd H a (.dK kvs) ∧ ∀ p, H p = none → Q (.ref p) (upd H p (.dK kvs))) (tCons te tNil))) σ H (.dK kvs) := fun H1 e Q q =>
  (et_is (b := false) (et_test (ev_op h ev_c rv_isN)) rfl) H1 e _ fun H2 e2 => h H2 (e.trans e2) _ fun H3 e3 => ⟨d, kvs, rfl, .inl (e3 _ _ (e2 _ _ (e _ _ hd))), fun p hp => q p _ (fresh_back (e2.trans e3) hp) ((e2.trans e3).trans (Ex.new hp)) upd_same⟩
end

section
variable {P : Program} {w : World} {K : PySem.W.Frag} {mg : Str → Option Value} {base : Heap}
abbrev n_Alone_init : List Str := ["self", "share", "rule", "sizes", "load", "write"]
theorem sc_Alone_init : FnScope n_Alone_init ["self", "share", "rule", "sizes", "load", "write"] (defScope s_Alone_init) := C8.fnScope_by (by decide +kernel)
def sp_Alone_init (K : PySem.W.Frag) : Sp := fun vs H Q _ => ∃ (m dx d : Addr) (z : Szs) (share : Int) (rule : Nat) (R : List HP), vs = [.ref m, .int share, .ref (fR K rule), .ref d, .int 0, .int 0] ∧ Sat H (pt m (.ins (He.ga K "Alone") dx []) :: pt d (.dK (szK z)) :: R) ∧ SzOk z ∧ 0 ≤ share ∧ share ≤ 8 ∧ rule < 6 ∧
  ∀ H', Sat H' (MachP K m z ⟨share, rule, [], .none, 0, 0, 0⟩ :: pt d (.dK (szK z)) :: R) → Tu H H' → Q .non H'
theorem ok_Alone_init  (T : Ctx K mg) : MakK P w K mg base 4 "Alone" (He.ga K "Alone") 2 ["sizes"] (sp_Alone_init K) (fun vs zs => vs ++ zs ++ [.int 0, .int 0]) := by
  refine makK_of (n := 2) (ks := ["sizes"]) (ms := [("load", .int 0), ("write", .int 0)]) (fun vs mz zs => vs ++ zs ++ mz) (N := n_Alone_init) T.f_Alone_init (T.mks "Alone" (by decide)) (T.glo _ (by decide)) sc_Alone_init (by decide) (by decide) (fun a b c => (a.append c).append b)
    (fun D doc pm an cdv ct us mv ws h1 h2 h3 => ?chain) (fun vs H Q E h => ?len) (fun cdv A outer s H vs Q E hr h => ?body)
  case chain =>
    match us, mv, ws, h1, h2, h3 with
    | [a, b, c], [d, e], [f], _, _, _ => exact ⟨_, _, _, _, _, _, rfl, rfl, _, _, _, _, _, _, rfl, rfl, rfl⟩
  case len =>
    obtain ⟨_, _, _, _, _, _, _, rfl, _⟩ := h
    rfl
  case body =>
    obtain ⟨m, dx, d, z, share, rule, R, rfl, S, hz, h0, h8, hr6, k⟩ := h
    have hd := S.get 1 rfl
    refine ⟨_, (pss_cons (ps_expr (C8.pe_c (ok_check_number T) hr (by decide) (by rfl) (pa_cons (pv 1) (pa_cons pe_int (pa_cons (C8.pe_gc (v := .int 1000000000) (by rfl) (const_of T.mostNumber)) pa_nil))))) (pss_cons (ps_expr (C8.pe_c (ok_check_rule T) hr (by decide) (by rfl) (pa_cons (pv 2) pa_nil))) (pss_cons (ps_expr (C8.pe_c (ok_check_sizes T) hr (by decide) (by rfl) (pa_cons (pv 3) pa_nil))) (pss_cons (ps_expr (C8.pe_c (ok_check_number T) hr (by decide) (by rfl) (pa_cons (pv 4) (pa_cons pe_int (pa_cons (C8.pe_gc (v := .int 1000) (by rfl) (const_of T.mostTicks)) pa_nil))))) (pss_cons (ps_expr (C8.pe_c (ok_check_number T) hr (by decide) (by rfl) (pa_cons (pv 5) (pa_cons pe_int (pa_cons (C8.pe_gc (v := .int 1000) (by rfl) (const_of T.mostTicks)) pa_nil))))) (pss_cons (ps_fldK (K := K) (pv 0) (pv 1)) (pss_cons (ps_fldK (K := K) (pv 0) (pv 2)) (pss_cons (ps_fldK (K := K) (pv 0) (pe_ifExp (pt_cmpR op_isN (pv 3) pe_non (by rfl)) pe_dnewK (pe_callTy call_dictD (by rfl) (T.free _ (by decide)) (by decide +kernel) (pa_cons (pv 3) pa_nil)))) (pss_cons (ps_fldK (K := K) (pv 0) (pe_tup (pa_cons (pv 4) (pa_cons (pv 5) pa_nil)))) (pss_cons (ps_fldK (K := K) (pv 0) pe_dnewK) (pss_cons (ps_fldK (K := K) (pv 0) pe_dnewK) (pss_cons (ps_fldK (K := K) (pv 0) (pe_lst pa_nil)) (pss_cons (ps_fldK (K := K) (pv 0) pe_non) (pss_cons (ps_fldK (K := K) (pv 0) (pe_disp (pps_cons pe_str pe_int (pps_cons pe_str pe_int (pps_cons pe_str pe_int (pps_cons pe_str pe_int (pps_cons pe_str pe_int pps_nil))))) (by rfl) (by rfl) (fun z => by cases z) (by decide))) (pss_one (ps_fldK (K := K) (pv 0) pe_int)))))))))))))))), ?_⟩
    have c := T.cls "Alone" (by decide)
    have num : ∀ (σ : L2.St) (H : Hp) (ta tb tc : TE) (n a b : Int), Ev ta σ H (.int n) → Ev tb σ H (.int a) → Ev tc σ H (.int b) → a ≤ n → n ≤ b → Ev (tCall sp_check_number [] C8.E0 (tCons ta (tCons tb (tCons tc tNil)))) σ H .non := fun σ H ta tb tc n a b h1 h2 h3 h4 h5 =>
      ev_callV (ea_cons h1 (ea_cons h2 (ea_cons h3 ea_nil))) fun H1 _ Q q => ⟨n, a, b, rfl, h4, h5, q⟩
    refine q_drop (num _ _ _ _ _ _ _ _ (ev_var rfl) ev_c ev_c h0 (by omega)) fun H1 e1 => ?_
    refine q_drop (ev_callV (ea_cons (ev_var rfl) ea_nil) fun H1 _ Q q => ⟨rule, rfl, hr6, q⟩) fun H2 e2 => ?_
    refine q_drop (ev_callV (ea_cons (ev_var rfl) ea_nil) fun H3 e3 Q q => ⟨d, z, rfl, e3 _ _ (e2 _ _ (e1 _ _ hd)), hz, q⟩) fun H3 e3 => ?_
    refine q_drop (num _ _ _ _ _ _ _ _ (ev_var rfl) ev_c ev_c (by decide) (by decide)) fun H4 e4 => ?_
    refine q_drop (num _ _ _ _ _ _ _ _ (ev_var rfl) ev_c ev_c (by decide) (by decide)) fun H5 e5 => ?_
    have e15 := (((e1.trans e2).trans e3).trans e4).trans e5
    have S5 := S.same e15
    refine q_fldS (ev_var rfl) (ev_var rfl) S5 c (T.noat ("Alone", "own_share") (by decide)) lt1000 fun H6 S6 t6 => ?_
    refine q_fldS (ev_var rfl) (ev_var rfl) S6 c (T.noat ("Alone", "own_rule") (by decide)) lt1000 fun H7 S7 t7 => ?_
    refine q_fldNew (eo_dict (ev_var rfl) (S7.get 1 rfl)) (ev_var rfl) S7 c (T.noat ("Alone", "own_sizes") (by decide)) lt1000 (fun z => z) fun szs H8 S8 t8 => ?_
    refine q_fldU (xs := [.int 0, .int 0]) (ew_new (eu_tup (ea_cons (ev_var rfl) (ea_cons (ev_var rfl) ea_nil)) (by show 2 ≤ 100000; decide))) (ev_var rfl) S8 c (T.noat ("Alone", "own_ticks") (by decide)) lt1000 fun tk H9 S9 t9 htk => ?_
    refine q_fldNew eo_newK (ev_var rfl) S9 c (T.noat ("Alone", "own_rows") (by decide)) lt1000 (fun z => z) fun rows H10 S10 t10 => ?_
    refine q_fldNew eo_newK (ev_var rfl) S10 c (T.noat ("Alone", "own_dirty") (by decide)) lt1000 (fun z => z) fun dirty H11 S11 t11 => ?_
    refine q_fldNew eo_nil2 (ev_var rfl) S11 c (T.noat ("Alone", "own_pins") (by decide)) lt1000 (fun z => z) fun pins H12 S12 t12 => ?_
    refine q_fldS (y := .non) ev_c (ev_var rfl) S12 c (T.noat ("Alone", "own_state") (by decide)) lt1000 fun H13 S13 t13 => ?_
    refine q_fldNew (o := .dK (cntK 0 ⟨dx, szs, tk, rows, dirty, pins, 0, .non, [], [], 0, 0, 0, 0⟩)) (fun H14 e14 Q14 q14 p hp => ?_) (ev_var rfl) S13 c (T.noat ("Alone", "own_counts") (by decide)) lt1000 (fun z => z) fun counts H14 S14 t14 => ?_
    · exact ⟨upd_same, cntK 0 ⟨dx, szs, tk, rows, dirty, pins, 0, .non, [], [], 0, 0, 0, 0⟩, rfl, Nat.le_of_ble_eq_true rfl, q14 p _ hp (fun a o ha => by
        rw [upd_ne (ne_of_none ha hp), upd_ne (ne_of_none ha hp)]
        exact ha) (by rw [upd_same]; rfl)⟩
    refine s_fldS (y := .int 0) ev_c (ev_var rfl) S14 c (T.noat ("Alone", "own_moment") (by decide)) lt1000 fun H15 S15 t15 => ?_
    have t615 := (((((((((Ex.tu e15).trans t6).trans t7).trans t8).trans t9).trans t10).trans t11).trans t12).trans t13).trans (t14.trans t15)
    refine k H15 (MachP.open_.mpr ⟨⟨dx, szs, tk, rows, dirty, pins, counts, .non, [], [], 0, 0, 0, 0⟩, ?_⟩) t615
    have htk15 : H15 tk = some (.tup [.int 0, .int 0]) := (((((t10.trans t11).trans t12).trans t13).trans t14).trans t15) _ _ htk
    have S16 : Sat H15 (pt m (.ins (He.ga K "Alone") dx (mF K ⟨share, rule, [], .none, 0, 0, 0⟩ ⟨dx, szs, tk, rows, dirty, pins, counts, .non, [], [], 0, 0, 0, 0⟩)) :: pt counts (.dK (cntK 0 ⟨dx, szs, tk, rows, dirty, pins, counts, .non, [], [], 0, 0, 0, 0⟩)) :: pt pins (.lst []) :: pt dirty (.dK []) :: pt rows (.dK []) :: pt szs (.dK (szK z)) :: pt d (.dK (szK z)) :: R) := S15
    have S17 := (((((S16.pull 2 rfl).pull 5 rfl).pull 3 rfl).pull 4 rfl).pull 5 rfl).pull 5 rfl
    have S18 := Sat.back (l := [_, _, _, _, _, _]) ((Sat.al (l' := [])).mpr S17)
    have S19 := Sat.back (l := [_, _, _, _, _, _]) ((Sat.pu (φ := ([] : List RowX).map (·.r) = [] ∧ ([] : List (Key × V)).length ≤ 0)).mpr ⟨⟨rfl, Nat.le_refl _⟩, S18⟩)
    have S20 := Sat.back (l := [_, _, _, _, _, _]) ((Sat.vp (φ := fun H => StV H .non .none) (st := fun _ _ h e => h.tu e)).mpr ⟨rfl, S19⟩)
    exact Sat.back (l := [_, _, _, _, _, _]) (Sat.tp.mpr ⟨htk15, S20⟩)
end
end N32
set_option Elab.async false
set_option linter.all false
set_option maxRecDepth 100000
set_option maxHeartbeats 4000000

namespace N32
open PySem PySem.Spec PyProof.Rows L2 Evl
/-! ### requests -/
structure Req where
  at_ : Int
  kind : Str
  path : Str
  page : Str
def Req.vs (q : Req) : List V := [.int q.at_, .str q.kind, .str q.path, .str q.page]
structure ReqOk (q : Req) : Prop where
  at0 : 0 ≤ q.at_
  at1 : q.at_ ≤ 1000
  kind : q.kind = "read" ∨ q.kind = "write"
  path : q.path ∈ pathsL
  page : q.page ∈ pagesL
def ReqV (H : Hp) (v : V) (q : Req) : Prop := ∃ t, v = .ref t ∧ H t = some (.tup q.vs)
structure ReqL (H : Hp) (xs : List V) (qs : List Req) : Prop where
  len : xs.length = qs.length
  at_ : ∀ (i : Nat) (x : V) (q : Req), xs[i]? = some x → qs[i]? = some q → ReqV H x q
theorem ReqV.tu {H H' : Hp} {v : V} {q : Req} (h : ReqV H v q) (e : Tu H H') : ReqV H' v q := let ⟨t, a, b⟩ := h; ⟨t, a, e _ _ b⟩
theorem ReqL.tu {H H' : Hp} {xs : List V} {qs : List Req} (h : ReqL H xs qs) (e : Tu H H') : ReqL H' xs qs := ⟨h.len, fun i x q a b => (h.at_ i x q a b).tu e⟩
theorem ReqL.ex {H H' : Hp} {xs : List V} {qs : List Req} (h : ReqL H xs qs) (e : Ex H H') : ReqL H' xs qs := h.tu (Ex.tu e)
theorem ReqL.get {H : Hp} {xs : List V} {qs : List Req} (E : ReqL H xs qs) {i : Nat} {x : V} (h : xs[i]? = some x) : ∃ q, qs[i]? = some q ∧ ReqV H x q := by
  have hi : i < qs.length := by rw [← E.len]; exact (List.getElem?_eq_some_iff.mp h).1
  exact ⟨qs[i], List.getElem?_eq_getElem hi, E.at_ i x _ h (List.getElem?_eq_getElem hi)⟩
structure ReqsOk (qs : List Req) : Prop where
  len : qs.length ≤ 40
  ok : ∀ q ∈ qs, ReqOk q
  sorted : qs.Pairwise fun a b => a.at_ ≤ b.at_
/-- a trace that is read -/
structure TraceV (K : PySem.W.Frag) (H : Hp) (x dx u : Addr) (xs : List V) (qs : List Req) : Prop where
  ins : H x = some (.ins (He.ga K "Trace") dx [("own_requests", .ref u)])
  tup : H u = some (.tup xs)
  reqs : ReqL H xs qs
theorem TraceV.ex {K : PySem.W.Frag} {H H' : Hp} {x dx u : Addr} {xs : List V} {qs : List Req} (h : TraceV K H x dx u xs qs) (e : Ex H H') : TraceV K H' x dx u xs qs := ⟨e _ _ h.ins, e _ _ h.tup, h.reqs.ex e⟩
section
variable {P : Program} {w : World} {K : PySem.W.Frag} {mg : Str → Option Value} {base : Heap}
/-- C(..) by an __init__ with one default, which is not used -/
theorem mak1_of {C qual : Str} {st : Stmt} {f : Addr} {N ps : List Str} {k n : Nat} {sp : Sp} {d : V} (F : ∃ fd, FunD K "__init__" qual (defArgs st) (defBody st) (defScope st) [d] [] f fd) (M : Mk K (He.ga K C) f) (hm : mg C = some (.ref (He.ga K C))) (S : FnScope N ps (defScope st)) (hn : n = ps.length)
    (b : ∀ (T : Addr) (kV doc pm : Value) (an : Option Addr) (cdv ct : Value) (us its : List Value), us.length = n → its.length = 1 → ∃ k, bindArgs (PySem.W.fnOf "__init__" qual (defArgs st) (defBody st) (defScope st) (.ref T) kV doc pm an cdv ct) ⟨us, []⟩ = seqItems? (.ref T) >>= k ∧ k (some its.toArray) = pure (ps.zip (us ++ its.drop 1)))
    (len : ∀ vs H Q E, sp vs H Q E → vs.length = ps.length)
    (hbody : ∀ (cdv : Value) (A : Around) (outer : List Env) (s : Shared) (H : Hp) (vs : List V) (Q : VK) (E : XK), Room k (A.deeper (envOfC qual (defScope st) s.heap.objs.size f cdv)) → sp vs H Q E →
      ∃ t, PSs (cxOf C8.CX0 P w K mg base N qual (defScope st) f cdv A outer s H E).nox (defBody st) t ∧ t { nx := fun _ H' => Q .non H', rt := Q } (start N vs) H) : C8.Mak P w K mg base (k + 1) C (He.ga K C) sp [] := by
  obtain ⟨fd, F⟩ := F
  obtain ⟨ds, hv, hb⟩ := F.binds1 n 1 (fun z => nomatch z) (by show n + (1 - 1) = _; omega) b
  refine ⟨f, fd, ps, ds, M, F.ok S len (fun cdv A outer s H vs Q E hr h => ?_), hm, hb, hv⟩
  obtain ⟨t, h1, h2⟩ := hbody cdv A outer s H vs Q E hr h
  exact ⟨t, h1.nox, h2⟩
end
section
variable {K : PySem.W.Frag} {σ : L2.St} {H : Hp} {ta tb te : TE} {ts : TA}
theorem ev_isiT {v t : V} {T : Value} {us : List Value} {cs : List V} {b : Bool} (ha : Ev ta σ H v) (hc : EvU (tTup ts) σ H cs) (pc : Paired ClsV cs us) (ty : ∀ H1, Ex H H1 → TyF K H1 v T) (h : PySem.W.kitAny K T us = some b) : Ev (tCB (rIsiTF K) (tCons ta (tCons (tTup ts) tNil))) σ H (.bl b) := fun H1 e Q q =>
  ha H1 e _ fun H2 e2 => hc H2 (e.trans e2) _ fun p H3 _ e3 h3 => ⟨v, p, cs, T, us, b, rfl, h3, pc, ty H3 ((e.trans e2).trans e3), h, q H3 (e2.trans e3)⟩
end

section
variable {P : Program} {w : World} {K : PySem.W.Frag} {mg : Str → Option Value} {base : Heap}
abbrev n_is_request : List Str := ["value"]
theorem sc_is_request : FnScope n_is_request ["value"] (defScope s_is_request) := C8.fnScope_by (by decide +kernel)
def sp_is_request : Sp := fun vs H Q _ => ∃ (v : V) (q : Req), vs = [v] ∧ ReqV H v q ∧ ReqOk q ∧ RetV (.bl true) H Q
theorem ok_is_request  (T : Ctx K mg) : C8.Cal P w K mg base 4 "is_request" (sp_is_request) [] := by
  refine cal_of T.f_is_request (T.glo _ (by decide)) (N := n_is_request) sc_is_request (fun _ _ _ _ _ _ us hl => match us, hl with | [_], _ => rfl) (fun vs H Q E h => ?len) (fun cdv A outer s H vs Q E hr h => ?body)
  case len =>
    obtain ⟨_, _, rfl, _⟩ := h
    rfl
  case body =>
    obtain ⟨v, q, rfl, ⟨t, rfl, ht⟩, ho, k⟩ := h
    refine ⟨_, (pss_cons (ps_if (PW.pt (pw_or (pt_not (pt_val (pe_callB (call_isiF (K := K)) (by rfl) (T.free _ (by decide)) (by decide +kernel) (pa_cons (pv 0) (pa_cons (pe_bltn (v := .ty "tuple") (by rfl) (T.free _ (by decide)) (by decide +kernel) rfl) pa_nil))))) (pw_or (pt_cmpR op_ne (pe_callB (call_len_seqK (K := K)) (by rfl) (T.free _ (by decide)) (by decide +kernel) (pa_cons (pv 0) pa_nil)) pe_int (by rfl)) (pw_or1 (pt_not (pt_val (C8.pe_c (ok_is_between T) hr (by decide) (by rfl) (pa_cons (pe_ix (ix_tupK (K := K)) (pv 0) pe_int (fun _ _ => rfl)) (pa_cons pe_int (pa_cons (C8.pe_gc (v := .int 1000000000) (by rfl) (const_of T.mostNumber)) pa_nil)))))))))) (pss_one (ps_ret pe_bl)) pss_nil) (pss_one (ps_ret (pe_and (pe_callB (call_isiF (K := K)) (by rfl) (T.free _ (by decide)) (by decide +kernel) (pa_cons (pe_ix (ix_tupK (K := K)) (pv 0) pe_int (fun _ _ => rfl)) (pa_cons (pe_bltn (v := .ty "str") (by rfl) (T.free _ (by decide)) (by decide +kernel) rfl) pa_nil))) (pe_and (pe_cmpR (op_in_seqK (K := K)) (pe_ix (ix_tupK (K := K)) (pv 0) pe_int (fun _ _ => rfl)) (C8.pe_gc (v := .ref (He.ga K "KINDS")) (by rfl) ⟨_, T.kindsG, rfl⟩) (by rfl)) (pe_and (C8.pe_c (ok_is_path T) hr (by decide) (by rfl) (pa_cons (pe_ix (ix_tupK (K := K)) (pv 0) pe_int (fun _ _ => rfl)) pa_nil)) (pe_one (C8.pe_c (ok_is_page T) hr (by decide) (by rfl) (pa_cons (pe_ix (ix_tupK (K := K)) (pv 0) pe_int (fun _ _ => rfl)) pa_nil))))))))), ?_⟩
    have ix : ∀ (H1 : Hp) (σ : L2.St) (i : Int) (y : V), Ex H H1 → σ[0]? = some (some (.ref t)) → atI q.vs i = some y → Ev (tOp (rIxT K) (tVar 0) (tC (.int i))) σ H1 y := fun H1 σ i y e hσ hy => ev_op (ev_var hσ) ev_c (rv_ixT (st_of (e _ _ ht)) hy)
    refine q_when (b := false) (et_or (a := false) (b := false) (et_not (a := true) (et_B (ev_isi (ev_var rfl) (.ty "tuple") (fun H1 e => ty_tup (e _ _ ht)) (kit_ty (by decide +kernel))))) fun _ => et_or (a := false) (b := false) (et_test (ev_op (ev_is (ev_lenT (ev_var rfl) (st_of ht)) (show V.int _ = V.int 4 from rfl)) ev_c (rv_ne2 (b := false) rfl (by decide)))) fun _ =>
      et_not (a := true) (et_B (ev_callV (ea_cons (ix H _ 0 (.int q.at_) (Ex.refl _) rfl rfl) (ea_cons ev_c (ea_cons ev_c ea_nil))) fun H1 _ Q k => ⟨q.at_, 0, 1000000000, rfl, ho.at0, by have := ho.at1; omega, k⟩))) (fun h => nomatch h) fun _ H1 e1 => ?_
    refine s_ret (ev_is (ev_andV (a := true) (b := true) (ev_isi (ix H1 _ 1 (.str q.kind) e1 rfl rfl) (.ty "str") (fun _ _ => ty_str) (kit_ty (by decide +kernel))) fun _ => ev_is (ev_andV (a := true) (b := true) (ev_is (ev_op (ix H1 _ 1 (.str q.kind) e1 rfl rfl) ev_c (rv_isT (T.kinds H1) rfl rfl)) ?_) fun _ =>
      ev_is (ev_andV (a := true) (b := true) (ev_callV (ea_cons (ix H1 _ 2 (.str q.path) e1 rfl rfl) ea_nil) fun H1 _ Q k => ⟨q.path, rfl, ho.path, k⟩) fun _ => ev_callV (ea_cons (ix H1 _ 3 (.str q.page) e1 rfl rfl) ea_nil) fun H1 _ Q k => ⟨q.page, rfl, ho.page, k⟩) rfl) rfl) rfl) fun H2 e2 => k H2 (e1.trans e2)
    rcases ho.kind with h | h <;> rw [h] <;> decide +kernel
end
section
variable {P : Program} {w : World} {K : PySem.W.Frag} {mg : Str → Option Value} {base : Heap}
abbrev n_check_requests : List Str := ["value", "last", "position", "request"]
theorem sc_check_requests : FnScope n_check_requests ["value"] (defScope s_check_requests) := C8.fnScope_by (by decide +kernel)
def sp_check_requests (K : PySem.W.Frag) : Sp := fun vs H Q _ => ∃ (l : Addr) (xs : List V) (qs : List Req), vs = [.ref l] ∧ H l = some (.lst xs) ∧ ReqL H xs qs ∧ ReqsOk qs ∧ RetV .non H Q
theorem ok_check_requests  (T : Ctx K mg) : C8.Cal P w K mg base 5 "check_requests" (sp_check_requests K) [] := by
  refine cal_of T.f_check_requests (T.glo _ (by decide)) (N := n_check_requests) sc_check_requests (fun _ _ _ _ _ _ us hl => match us, hl with | [_], _ => rfl) (fun vs H Q E h => ?len) (fun cdv A outer s H vs Q E hr h => ?body)
  case len =>
    obtain ⟨_, _, _, rfl, _⟩ := h
    rfl
  case body =>
    obtain ⟨l, xs, qs, rfl, hl, hq, ho, k⟩ := h
    refine ⟨_, (pss_cons (ps_if (pt_not (pt_val (pe_callB (call_isiTF (K := K)) (by rfl) (T.free _ (by decide)) (by decide +kernel) (pa_cons (pv 0) (pa_cons (pe_tup (pa_cons (pe_bltn (v := .ty "list") (by rfl) (T.free _ (by decide)) (by decide +kernel) rfl) (pa_cons (pe_bltn (v := .ty "tuple") (by rfl) (T.free _ (by decide)) (by decide +kernel) rfl) pa_nil))) pa_nil))))) (pss_one ps_never) pss_nil) (pss_cons (ps_set (i := 1) sc_check_requests.nd rfl (Or.inl rfl) pe_int) (pss_one (ps_for PassesOwn.never (by rfl) (pi_enumK (K := K) (by rfl) (T.free _ (by decide)) (pa_cons (pv 0) pa_nil)) (pg_tupK (K := K) (n := 2) (by rfl) (pgs_cons (pg_name (i := 2) sc_check_requests.nd rfl (Or.inl rfl)) (pgs_cons (pg_name (i := 3) sc_check_requests.nd rfl (Or.inl rfl)) pgs_nil))) (pss_cons (ps_if (PW.pt (pw_or (pt_not (pt_val (C8.pe_c (ok_is_request T) hr (by decide) (by rfl) (pa_cons (pv 3) pa_nil)))) (pw_or1 (pt_cmpR op_lt (pe_ix (ix_tupK (K := K)) (pv 3) pe_int (fun _ _ => rfl)) (pv 1) (by rfl))))) (pss_one ps_never) pss_nil) (pss_one (ps_set (i := 1) sc_check_requests.nd rfl (Or.inl rfl) (pe_ix (ix_tupK (K := K)) (pv 3) pe_int (fun _ _ => rfl))))))))), ?_⟩
    refine q_when (b := false) (et_not (a := true) (et_B (ev_isiT (t := .non) (cs := [.ty "list", .ty "tuple"]) (ev_var rfl) (eu_tup (ea_cons ev_c (ea_cons ev_c ea_nil)) (by show 2 ≤ 100000; decide)) (.cons (.ty _) (.cons (.ty _) .nil)) (fun H1 e => ty_lst (e _ _ hl)) (kitAny_cons (b := true) (kit_ty (by decide +kernel)) (fun h => nomatch h) fun _ => rfl)))) (fun h => nomatch h) fun _ H1 e1 => ?_
    refine q_asg (v := .int 0) ev_c fun H2 e2 => ?_
    have e02 := e1.trans e2
    refine ⟨_, rfl, l, xs, rfl, sq_of (e02 _ _ hl), for_it walk_enum (fun i σ' H' => Ex H H' ∧ ∃ (n : Int) (a b : Option V), σ' = [some (.ref l), some (.int n), a, b] ∧ ∀ q, qs[i]? = some q → n ≤ q.at_) ⟨e02, 0, _, _, rfl, fun q hq0 => (ho.ok q (List.mem_of_getElem? hq0)).at0⟩ (fun i σ' H' _ p => sq_of (p.1 _ _ hl)) ?_ fun σ' H' p => k H' p.1⟩
    rintro i x σ' H' H3 hi ⟨p1, n, a, b, rfl, hn⟩ ⟨t, x1, y, rfl, ht, rfl, ha, hb⟩
    cases ha
    obtain ⟨q, hqi, hv⟩ := (hq.ex p1).get hb
    have eT : Ex H' (upd H' t (.tup [.int (i : Nat), y])) := Ex.new ht
    have hv2 : ReqV (upd H' t (.tup [.int (i : Nat), y])) y q := hv.tu (Ex.tu eT)
    have hok := ho.ok q (List.mem_of_getElem? hqi)
    refine ⟨t, _, rfl, st_of upd_same, rfl, _, _, rfl, _, _, rfl, rfl, ?_⟩
    obtain ⟨ty, rfl, hty⟩ := hv2
    refine q_when (b := false) (et_or (a := false) (b := false) (et_not (a := true) (et_B (ev_callV (ea_cons (ev_var rfl) ea_nil) fun H5 e5 Q k => ⟨_, q, rfl, ⟨ty, rfl, e5 _ _ hty⟩, hok, k⟩))) fun _ => et_is (et_test (ev_op (ev_op (ev_var rfl) ev_c (rv_ixT (st_of hty) (v := .int q.at_) rfl)) (ev_var rfl) rv_I0)) (decide_eq_false (Int.not_lt.mpr (hn q hqi)))) (fun h => nomatch h) fun _ H4 e4 => ?_
    refine s_asg (v := .int q.at_) (ev_op (ev_var rfl) ev_c (rv_ixT (st_of (e4 _ _ hty)) rfl)) fun H5 e5 => ⟨((p1.trans eT).trans e4).trans e5, q.at_, _, _, rfl, fun q2 hq2 => ?_⟩
    have := ho.sorted
    obtain ⟨h1, h2⟩ := List.getElem?_eq_some_iff.mp hqi
    obtain ⟨h3, h4⟩ := List.getElem?_eq_some_iff.mp hq2
    have := List.pairwise_iff_getElem.mp this i (i + 1) h1 h3 (by omega)
    rw [h2, h4] at this
    exact this
end
section
variable {P : Program} {w : World} {K : PySem.W.Frag} {mg : Str → Option Value} {base : Heap}
abbrev n_Trace_init : List Str := ["self", "requests"]
theorem sc_Trace_init : FnScope n_Trace_init ["self", "requests"] (defScope s_Trace_init) := C8.fnScope_by (by decide +kernel)
def sp_Trace_init (K : PySem.W.Frag) : Sp := fun vs H Q _ => ∃ (x dx l : Addr) (xs : List V) (qs : List Req) (R : List HP), vs = [.ref x, .ref l] ∧ Sat H (pt x (.ins (He.ga K "Trace") dx []) :: pt l (.lst xs) :: R) ∧ ReqL H xs qs ∧ ReqsOk qs ∧
  ∀ u H', Sat H' (pt x (.ins (He.ga K "Trace") dx [("own_requests", .ref u)]) :: pt l (.lst xs) :: R) → H' u = some (.tup xs) → Tu H H' → Q .non H'
theorem ok_Trace_init  (T : Ctx K mg) : C8.Mak P w K mg base 6 "Trace" (He.ga K "Trace") (sp_Trace_init K) [] := by
  refine mak1_of (n := 2) T.f_Trace_init (T.mks "Trace" (by decide)) (T.glo _ (by decide)) sc_Trace_init rfl (fun T kV doc pm an cdv ct us its h1 h2 => ?bind) (fun vs H Q E h => ?len) (fun cdv A outer s H vs Q E hr h => ?body)
  case bind =>
    match us, its, h1, h2 with
    | [a, b], [c], _, _ => exact ⟨_, rfl, rfl⟩
  case len =>
    obtain ⟨_, _, _, _, _, _, rfl, _⟩ := h
    rfl
  case body =>
    obtain ⟨x, dx, l, xs, qs, R, rfl, S, hq, ho, k⟩ := h
    refine ⟨_, (pss_cons (ps_expr (C8.pe_c (ok_check_requests T) hr (by decide) (by rfl) (pa_cons (pv 1) pa_nil))) (pss_one (ps_fldK (K := K) (pv 0) (pe_callTy (call_tuple_ofK (K := K)) (by rfl) (T.free _ (by decide)) (by decide +kernel) (pa_cons (pv 1) pa_nil))))), ?_⟩
    have c := T.cls "Trace" (by decide)
    refine q_drop (ev_callV (ea_cons (ev_var rfl) ea_nil) fun H1 e1 Q q => ⟨l, xs, qs, rfl, e1 _ _ (S.get 1 rfl), hq.ex e1, ho, q⟩) fun H1 e1 => ?_
    have S1 := S.same e1
    refine ew_tupleV (ev_var rfl) (S1.get 1 rfl) H1 (Ex.refl _) _ fun u H2 e2 hu => ?_
    have S2 := S1.same e2
    refine ⟨_, rfl, x, _, dx, _, rfl, S2.get 0 rfl, c, T.noat ("Trace", "own_requests") (by decide), lt1000, ?_⟩
    exact k u _ (S2.put 0 rfl) (Tu.upd (S2.get 0 rfl) (fun z => z) _ _ hu) ((Ex.tu (e1.trans e2)).trans (Tu.upd (S2.get 0 rfl)))
end
section
variable {P : Program} {w : World} {K : PySem.W.Frag} {mg : Str → Option Value} {base : Heap}
abbrev n_Trace_rows : List Str := ["self"]
theorem sc_Trace_rows : FnScope n_Trace_rows ["self"] (defScope s_Trace_rows) := C8.fnScope_by (by decide +kernel)
def sp_Trace_rows (K : PySem.W.Frag) : Sp := fun vs H Q _ => ∃ (x dx u : Addr) (xs : List V) (qs : List Req), vs = [.ref x] ∧ TraceV K H x dx u xs qs ∧ RetL xs H Q
theorem ok_Trace_rows  (T : Ctx K mg) : C8.Met P w K mg base 1 (He.ga K "Trace") "rows" (sp_Trace_rows K) [] := by
  refine met_of T.f_Trace_rows (T.cls _ (by decide)) (T.met ("Trace", "rows") (by decide)) (N := n_Trace_rows) sc_Trace_rows (fun _ _ _ _ _ _ us hl => match us, hl with | [_], _ => rfl) (fun vs H Q E h => ?len) (fun cdv A outer s H vs Q E hr h => ?body)
  case len =>
    obtain ⟨_, _, _, _, _, rfl, _⟩ := h
    rfl
  case body =>
    obtain ⟨x, dx, u, xs, qs, rfl, h, k⟩ := h
    refine ⟨_, (pss_one (ps_ret (pe_callTy (call_list_ofK (K := K)) (by rfl) (T.free _ (by decide)) (by decide +kernel) (pa_cons (pe_fldK (K := K) (pv 0)) pa_nil)))), ?_⟩
    exact s_retL (el_listW fun H1 e1 Q q => ev_fld (ev_var rfl) h.ins (T.cls "Trace" (by decide)) (T.noat ("Trace", "own_requests") (by decide)) rfl H1 e1 _ fun H2 e2 => q u H2 e2 (e2 _ _ (e1 _ _ h.tup))) k
end
section
variable {P : Program} {w : World} {K : PySem.W.Frag} {mg : Str → Option Value} {base : Heap}
abbrev n_Trace_len : List Str := ["self"]
theorem sc_Trace_len : FnScope n_Trace_len ["self"] (defScope s_Trace_len) := C8.fnScope_by (by decide +kernel)
def sp_Trace_len (K : PySem.W.Frag) : Sp := fun vs H Q _ => ∃ (x dx u : Addr) (xs : List V) (qs : List Req), vs = [.ref x] ∧ TraceV K H x dx u xs qs ∧ RetV (.int (qs.length : Int)) H Q
theorem ok_Trace_len  (T : Ctx K mg) : C8.Met P w K mg base 1 (He.ga K "Trace") "__len__" (sp_Trace_len K) [] := by
  refine met_of T.f_Trace_len (T.cls _ (by decide)) (T.met ("Trace", "__len__") (by decide)) (N := n_Trace_len) sc_Trace_len (fun _ _ _ _ _ _ us hl => match us, hl with | [_], _ => rfl) (fun vs H Q E h => ?len) (fun cdv A outer s H vs Q E hr h => ?body)
  case len =>
    obtain ⟨_, _, _, _, _, rfl, _⟩ := h
    rfl
  case body =>
    obtain ⟨x, dx, u, xs, qs, rfl, h, k⟩ := h
    refine ⟨_, (pss_one (ps_ret (pe_callB (call_len_seqK (K := K)) (by rfl) (T.free _ (by decide)) (by decide +kernel) (pa_cons (pe_fldK (K := K) (pv 0)) pa_nil)))), ?_⟩
    exact s_ret (ev_is (ev_lenT (ev_fld (ev_var rfl) h.ins (T.cls "Trace" (by decide)) (T.noat ("Trace", "own_requests") (by decide)) rfl) (st_of h.tup)) (by rw [h.reqs.len])) k
end
section
variable {P : Program} {w : World} {K : PySem.W.Frag} {mg : Str → Option Value} {base : Heap}
abbrev n_Trace_paths : List Str := ["self", "request"]
theorem sc_Trace_paths : FnScope n_Trace_paths ["self"] (defScope s_Trace_paths) := C8.fnScope_by (by decide +kernel)
def sp_Trace_paths (K : PySem.W.Frag) : Sp := fun vs H Q _ => ∃ (x dx u : Addr) (xs : List V) (qs : List Req), vs = [.ref x] ∧ TraceV K H x dx u xs qs ∧ qs.length ≤ 40 ∧ ∀ p (ys : List Str) H', H p = none → Ex H H' → H' p = some (.lst (ys.map V.str)) → (∀ y ∈ ys, ∃ q ∈ qs, q.path = y) → ys.length ≤ 40 → Q (.ref p) H'
theorem ok_Trace_paths  (T : Ctx K mg) : C8.Met P w K mg base 1 (He.ga K "Trace") "paths" (sp_Trace_paths K) [] := by
  refine met_of T.f_Trace_paths (T.cls _ (by decide)) (T.met ("Trace", "paths") (by decide)) (N := n_Trace_paths) sc_Trace_paths (fun _ _ _ _ _ _ us hl => match us, hl with | [_], _ => rfl) (fun vs H Q E h => ?len) (fun cdv A outer s H vs Q E hr h => ?body)
  case len =>
    obtain ⟨_, _, _, _, _, rfl, _⟩ := h
    rfl
  case body =>
    obtain ⟨x, dx, u, xs, qs, rfl, h, hl, k⟩ := h
    refine ⟨_, (pss_one (ps_ret (pe_callB (cr_sortedSetS rfl) (by rfl) (T.free _ (by decide)) (by decide +kernel) (pa_cons (pe_scS (own := [("request", 1)]) (by rfl) sc_Trace_paths.nd (pi_tupK (K := K) (pe_fldK (K := K) (pv 0))) (blkOk_by (own := [("request", 1)]) (N := n_Trace_paths) (sc := defScope s_Trace_paths) (by decide +kernel)) (fun _ _ _ _ _ => pg_name (i := 1) sc_Trace_paths.nd rfl (Or.inl rfl)) (fun _ _ _ _ _ => by exact pts_nil) (fun _ _ _ _ _ => by exact (pe_ix (ix_tupK (K := K)) (pv 1) pe_int (fun _ _ => rfl)))) pa_nil)))), ?_⟩
    have hxl := h.reqs.len
    refine ⟨_, rfl, x, _, dx, _, .ref u, rfl, h.ins, T.cls "Trace" (by decide), T.noat ("Trace", "own_requests") (by decide), rfl, u, rfl, ⟨xs, st_of h.tup⟩, fun D hD => ?_⟩
    refine ⟨fun i m H3 => m = xs.length - i ∧ i ≤ xs.length ∧ Ex H H3 ∧ ∃ S : List Str, H3 D = some (SetS P w D S) ∧ S.length ≤ i ∧ ∀ s ∈ S, ∃ q ∈ qs, q.path = s, ⟨_, rfl, Nat.zero_le _, Ex.new hD, [], upd_same, Nat.le_refl _, fun s hs => by simp at hs⟩, ?_⟩
    rintro i m H3 ⟨rfl, hi, p1, S, p2, p3, p4⟩
    have hT : SqT K H3 u xs := st_of (p1 _ _ h.tup)
    by_cases hlt : i < xs.length
    · refine .inr ⟨(walk_tup (K := K) (a := u) (xs := xs)).goes i H3 hlt hT, fun H4 => Ex H H4 ∧ ∃ S : List Str, H4 D = some (SetS P w D S) ∧ S.length ≤ i + 1 ∧ ∀ s ∈ S, ∃ q ∈ qs, q.path = s, fun H4 p => ⟨xs.length - (i + 1), by omega, rfl, hlt, p⟩, fun v H4 y => ?_⟩
      obtain ⟨rfl, hv⟩ := (walk_tup (K := K) (a := u) (xs := xs)).yields i H3 v H4 hlt hT y
      obtain ⟨q, hq, t, rfl, ht⟩ := (h.reqs.ex p1).get hv
      refine ⟨rfl, ?_⟩
      refine ⟨_, rfl, t, _, 2, .str q.path, rfl, rfl, st_of ht, rfl, q.path, S, rfl, p2, by omega, Ex.mut p1 hD, _, upd_same, ?_, ?_⟩
      · split
        · omega
        · rw [List.length_append, List.length_singleton]; omega
      · intro s hs
        split at hs
        · exact p4 s hs
        · rcases List.mem_append.mp hs with a | a
          · exact p4 s a
          · exact ⟨q, List.mem_of_getElem? hq, (List.mem_singleton.mp a).symm⟩
    · have e : i = xs.length := by omega
      subst e
      refine .inl ⟨(walk_tup (K := K) (a := u) (xs := xs)).stops H3 hT, D, S, rfl, p2, fun ys p hy hyl hp => ?_⟩
      exact k p ys _ (fresh_back p1 hp) (p1.trans (Ex.new hp)) upd_same (fun y hm => p4 y ((hy y).mp hm)) (by omega)
end
end N32
set_option Elab.async false
set_option linter.all false
set_option maxRecDepth 100000
set_option maxHeartbeats 4000000

namespace N32
open PySem PySem.Spec PyProof.Rows L2 Evl
/-! ### tenants -/
inductive What (α : Type) where
  | rule (r : Nat)
  | kids (l : List α) (r : Nat)
structure TnS (α : Type) where
  name : Str
  share : Int
  what : What α
def Kid : Nat → Type
  | 0 => Empty
  | n + 1 => TnS (Kid n)
/-- over a tuple or a list -/
def SeqV (H : Hp) (a : Addr) (xs : List V) : Prop := H a = some (.tup xs) ∨ H a = some (.lst xs)
theorem SeqV.ex {H H' : Hp} {a : Addr} {xs : List V} (h : SeqV H a xs) (e : Ex H H') : SeqV H' a xs := h.imp (e _ _) (e _ _)
def iOr (a b : TI) : TI := fun σ H R => a σ H R ∨ b σ H R
theorem pi_or {X : Cx} {tg e : Expr} {a b : TI} (h1 : PI X tg e a) (h2 : PI X tg e b) : PI X tg e (iOr a b) := ⟨fun pins s σ H R I h => by
  rcases h with h | h
  · exact h1.run pins s σ H R I h
  · exact h2.run pins s σ H R I h⟩
/-- what stands behind a tenant's share -/
def WhatV {α : Type} (K : PySem.W.Frag) (kids : Hp → Addr → List α → Prop) (H : Hp) (w : V) : What α → Prop
  | .rule r => w = .ref (fR K r) ∧ r < 6
  | .kids l r => ∃ g dx u, w = .ref g ∧ H g = some (.ins (He.ga K "Group") dx [("own_tenants", .ref u), ("own_lending", .ref (fR K r))]) ∧ kids H u l
theorem WhatV.ex {α : Type} {K : PySem.W.Frag} {kids : Hp → Addr → List α → Prop} {H H' : Hp} {w : V} {wt : What α} (hk : ∀ u l, kids H u l → kids H' u l) (h : WhatV K kids H w wt) (e : Ex H H') : WhatV K kids H' w wt := by
  cases wt with
  | rule r => exact h
  | kids l r => obtain ⟨g, dx, u, q1, q2, q3⟩ := h; exact ⟨g, dx, u, q1, e _ _ q2, hk u l q3⟩
/-- a tenant in the heap; kids: what a group's tenants at an address are -/
def TenV {α : Type} (K : PySem.W.Frag) (kids : Hp → Addr → List α → Prop) (H : Hp) (v : V) (t : TnS α) : Prop := ∃ a w, v = .ref a ∧ H a = some (.tup [.str t.name, .int t.share, w]) ∧ WhatV K kids H w t.what
structure TenL {α : Type} (K : PySem.W.Frag) (kids : Hp → Addr → List α → Prop) (H : Hp) (xs : List V) (ts : List (TnS α)) : Prop where
  len : xs.length = ts.length
  at_ : ∀ (i : Nat) (x : V) (t : TnS α), xs[i]? = some x → ts[i]? = some t → TenV K kids H x t
def kidsV (K : PySem.W.Frag) : (n : Nat) → Hp → Addr → List (Kid n) → Prop
  | 0, _, _, _ => False
  | n + 1, H, u, ts => ∃ xs, H u = some (.tup xs) ∧ TenL K (kidsV K n) H xs ts ∧ ts.length ≤ 8
theorem TenV.ex {α : Type} {K : PySem.W.Frag} {kids : Hp → Addr → List α → Prop} {H H' : Hp} {v : V} {t : TnS α} (hk : ∀ u l, kids H u l → kids H' u l) (h : TenV K kids H v t) (e : Ex H H') : TenV K kids H' v t := by
  obtain ⟨a, w, h1, h2, h3⟩ := h
  exact ⟨a, w, h1, e _ _ h2, h3.ex hk e⟩
theorem TenL.ex {α : Type} {K : PySem.W.Frag} {kids : Hp → Addr → List α → Prop} {H H' : Hp} {xs : List V} {ts : List (TnS α)} (hk : ∀ u l, kids H u l → kids H' u l) (h : TenL K kids H xs ts) (e : Ex H H') : TenL K kids H' xs ts :=
  ⟨h.len, fun i x t a b => (h.at_ i x t a b).ex hk e⟩
theorem kidsV_ex {K : PySem.W.Frag} : ∀ {n : Nat} {H H' : Hp} {u : Addr} {l : List (Kid n)}, kidsV K n H u l → Ex H H' → kidsV K n H' u l
  | 0, _, _, _, _, h, _ => h
  | n + 1, H, H', u, l, ⟨xs, h1, h2, h3⟩, e => ⟨xs, e _ _ h1, h2.ex (fun u l q => kidsV_ex q e) e, h3⟩
theorem TenL.get {α : Type} {K : PySem.W.Frag} {kids : Hp → Addr → List α → Prop} {H : Hp} {xs : List V} {ts : List (TnS α)} (E : TenL K kids H xs ts) {i : Nat} {x : V} (h : xs[i]? = some x) : ∃ t, ts[i]? = some t ∧ TenV K kids H x t := by
  have hi : i < ts.length := by rw [← E.len]; exact (List.getElem?_eq_some_iff.mp h).1
  exact ⟨ts[i], List.getElem?_eq_getElem hi, E.at_ i x _ h (List.getElem?_eq_getElem hi)⟩
def isGrp {α : Type} : What α → Bool
  | .rule _ => false
  | .kids _ _ => true
def tnD {α : Type} : TnS α := ⟨"", 0, .rule 0⟩
section
variable {K : PySem.W.Frag} {σ : L2.St} {H : Hp} {ta tb te tx : TE}
/-- isinstance(what, Group) -/
theorem ev_isGroup {mg : Str → Option Value} (T : Ctx K mg) {α : Type} {kids : Hp → Addr → List α → Prop} {w : V} {wt : What α} (ha : Ev ta σ H w)
    (hw : WhatV K kids H w wt) :
    Ev (tCB (rIsiF K) (tCons ta (tCons (tC (.ref (He.ga K "Group"))) tNil))) σ H (.bl (isGrp wt)) := by
  cases wt with
  | rule r =>
    obtain ⟨rfl, h6⟩ := hw
    obtain ⟨o, h1, h2⟩ := T.ruleT r h6
    exact ev_isi ha (.own _) (fun _ _ => .fn h1 h2) T.fnG
  | kids l r =>
    obtain ⟨g, dx, u, rfl, hg, _⟩ := hw
    have c := T.insC "Group" (by decide)
    exact ev_isi ha (.own _) (fun _ e => .x (.base (.ins (e _ _ hg) c.cl c.ha c.hn c.htk c.hm))) c.me
/-- name, share, what = a tenant -/
theorem g_ten {α : Type} {kids : Hp → Addr → List α → Prop} {v : V} {t : TnS α} {i j l : Nat} {R : L2.St → Hp → Prop} (h : TenV K kids H v t) (k : ∀ a w, v = .ref a → H a = some (.tup [.str t.name, .int t.share, w]) →
    WhatV K kids H w t.what → R (((σ.set i (some (.str t.name))).set j (some (.int t.share))).set l (some w)) H) :
    gTup K 3 (fun xs σ H Q => ∃ x r, xs = x :: r ∧ gName i x σ H fun σ H => ∃ x r', r = x :: r' ∧ gName j x σ H fun σ H => ∃ x r'', r' = x :: r'' ∧ gName l x σ H fun σ H => r'' = [] ∧ Q σ H) v σ H R := by
  obtain ⟨a, w, rfl, h2, h3⟩ := h
  exact ⟨a, _, rfl, st_of h2, rfl, _, _, rfl, _, _, rfl, _, _, rfl, rfl, k a w rfl h2 h3⟩
theorem wi_seq {tl : TE} {a : Addr} {xs : List V} {g : TG} {tt : TT} {vs : List Nat} {ys : List V} (h : SeqV H a xs) (h1 : SqT K H a xs → EvL (tLc (iTup K tl) g tt te vs) σ H ys) (h2 : SqL K H a xs → EvL (tLc (iList K tl) g tt te vs) σ H ys) : EvL (tLc (iOr (iTup K tl) (iList K tl)) g tt te vs) σ H ys := by
  rcases h with h | h
  · exact fun H1 e Q q => .inl (h1 (st_of h) H1 e Q q)
  · exact fun H1 e Q q => .inr (h2 (sq_of h) H1 e Q q)
end
/-! ### levels -/
def maxL (ns : List Int) : Int := ns.foldl max 0
def kidLvl {α : Type} (f : List α → Int) : What α → Int
  | .rule _ => 0
  | .kids l _ => f l
def lvl : (n : Nat) → List (Kid n) → Int
  | 0, _ => 0
  | n + 1, ts => 1 + maxL ((ts.filter fun t : TnS (Kid n) => isGrp t.what).map fun t : TnS (Kid n) => kidLvl (lvl n) t.what)
theorem maxL_go : ∀ (ns : List Int) (a : Int), a ≤ ns.foldl max a ∧ (∀ y ∈ ns, y ≤ ns.foldl max a) ∧ (ns.foldl max a = a ∨ ns.foldl max a ∈ ns)
  | [], a => ⟨Int.le_refl _, fun y hy => by simp at hy, .inl rfl⟩
  | b :: ns, a => by
    obtain ⟨h1, h2, h3⟩ := maxL_go ns (max a b)
    rw [List.foldl_cons]
    refine ⟨by omega, fun y hy => ?_, ?_⟩
    · rcases List.mem_cons.mp hy with rfl | hy
      · omega
      · exact h2 y hy
    · rcases h3 with h3 | h3
      · by_cases hab : a ≤ b
        · exact .inr (by rw [h3, Int.max_eq_right hab]; exact List.mem_cons_self)
        · exact .inl (by rw [h3, Int.max_eq_left (by omega)])
      · exact .inr (List.mem_cons_of_mem _ h3)
theorem maxL_one {ns : List Int} {m : Int} (hm : m ∈ 0 :: ns) (h : ∀ y, y ∈ 0 :: ns → y ≤ m) : m = maxL ns := by
  obtain ⟨h1, h2, h3⟩ := maxL_go ns 0
  have h0 := h 0 List.mem_cons_self
  have ha : m ≤ ns.foldl max 0 := by
    rcases List.mem_cons.mp hm with rfl | hm
    · exact h1
    · exact h2 m hm
  have hb : ns.foldl max 0 ≤ m := by
    rcases h3 with h3 | h3
    · rw [h3]; exact h0
    · exact h _ (List.mem_cons_of_mem _ h3)
  unfold maxL
  omega
theorem lvl_le : ∀ (n : Nat) (ts : List (Kid n)), lvl n ts ≤ n
  | 0, _ => Int.le_refl _
  | n + 1, ts => by
    unfold lvl
    obtain ⟨h1, h2, h3⟩ := maxL_go ((List.filter (fun t : TnS (Kid n) => isGrp t.what) ts).map fun t : TnS (Kid n) => kidLvl (lvl n) t.what) 0
    have : maxL ((List.filter (fun t : TnS (Kid n) => isGrp t.what) ts).map fun t : TnS (Kid n) => kidLvl (lvl n) t.what) ≤ n := by
      unfold maxL
      rcases h3 with h3 | h3
      · rw [h3]; omega
      · obtain ⟨t, ht, e⟩ := List.mem_map.mp h3
        rw [← e]
        cases t.what with
        | rule r => show (0 : Int) ≤ n; omega
        | kids l r => exact lvl_le n l
    show 1 + maxL _ ≤ ((n + 1 : Nat) : Int)
    omega
def sp_levels_of (K : PySem.W.Frag) : Nat → Sp
  | 0 => fun _ _ _ _ => False
  | n + 1 => fun vs H Q _ => ∃ (a : Addr) (xs : List V) (ts : List (TnS (Kid n))), vs = [.ref a] ∧ SeqV H a xs ∧ TenL K (kidsV K n) H xs ts ∧ ts.length ≤ 8 ∧ RetV (.int (lvl (n + 1) ts)) H Q
def sp_Group_levels (K : PySem.W.Frag) (n : Nat) : Sp := fun vs H Q _ => ∃ (g dx u : Addr) (r : Nat) (ts : List (Kid n)), vs = [.ref g] ∧ H g = some (.ins (He.ga K "Group") dx [("own_tenants", .ref u), ("own_lending", .ref (fR K r))]) ∧ kidsV K n H u ts ∧ RetV (.int (lvl n ts)) H Q

section
variable {P : Program} {w : World} {K : PySem.W.Frag} {mg : Str → Option Value} {base : Heap}
abbrev n_Group_levels : List Str := ["self"]
theorem sc_Group_levels : FnScope n_Group_levels ["self"] (defScope s_Group_levels) := C8.fnScope_by (by decide +kernel)

theorem ok_Group_levels {n k : Nat} (ih : C8.Cal P w K mg base k "levels_of" (sp_levels_of K n) []) (T : Ctx K mg) : Prp P w K mg base (k + 1) (He.ga K "Group") "levels" (sp_Group_levels K n) := by
  refine prp_of T.f_Group_levels (T.cls _ (by decide)) (T.prop ("Group", "levels") (by decide)) (N := n_Group_levels) sc_Group_levels (fun _ _ _ _ _ _ us hl => match us, hl with | [_], _ => rfl) (fun vs H Q E h => ?len) (fun cdv A outer s H vs Q E hr h => ?body)
  case len =>
    obtain ⟨_, _, _, _, _, rfl, _⟩ := h
    rfl
  case body =>
    obtain ⟨g, dx, u, r, ts, rfl, hg, hk, k'⟩ := h
    refine ⟨_, (pss_one (ps_ret (C8.pe_c ih hr (by omega) (by rfl) (pa_cons (pe_fldK (K := K) (pv 0)) pa_nil)))), ?_⟩
    cases n with
    | zero => exact False.elim hk
    | succ n =>
      refine s_ret (ev_callV (ea_cons (ev_fld (ev_var rfl) hg (T.cls "Group" (by decide)) (T.noat ("Group", "own_tenants") (by decide)) rfl) ea_nil) fun H1 e1 Q q => ?_) k'
      obtain ⟨xs, h1, h2, h3⟩ := hk
      exact ⟨u, xs, ts, rfl, .inl (e1 _ _ h1), h2.ex (fun u l q => kidsV_ex q e1) e1, h3, q⟩
end
section
variable {P : Program} {w : World} {K : PySem.W.Frag} {mg : Str → Option Value} {base : Heap}
abbrev n_levels_of : List Str := ["tenants", "name", "share", "what"]
theorem sc_levels_of : FnScope n_levels_of ["tenants"] (defScope s_levels_of) := C8.fnScope_by (by decide +kernel)

theorem ok_levels_of {n k : Nat} (ih : Prp P w K mg base k (He.ga K "Group") "levels" (sp_Group_levels K n)) (T : Ctx K mg) : C8.Cal P w K mg base (k + 2) "levels_of" (sp_levels_of K (n + 1)) [] := by
  refine cal_of T.f_levels_of (T.glo _ (by decide)) (N := n_levels_of) sc_levels_of (fun _ _ _ _ _ _ us hl => match us, hl with | [_], _ => rfl) (fun vs H Q E h => ?len) (fun cdv A outer s H vs Q E hr h => ?body)
  case len =>
    obtain ⟨_, _, _, rfl, _⟩ := h
    rfl
  case body =>
    obtain ⟨a, xs, ts, rfl, ha, hT, hl, k'⟩ := h
    refine ⟨_, (pss_one (ps_ret (pe_op op_add pe_int (pe_callB (cr_maxK (K := K) rfl) (by rfl) (T.free _ (by decide)) (by decide +kernel) (pa_cons (pe_op op_cat (pe_lst (pa_cons pe_int pa_nil)) (pe_lc (own := [("name", 1), ("share", 2), ("what", 3)]) (by rfl) sc_levels_of.nd (pi_or (pi_tupK (K := K) (pv 0)) (pi_listK (K := K) (pv 0))) (blkOk_by (own := [("name", 1), ("share", 2), ("what", 3)]) (N := n_levels_of) (sc := defScope s_levels_of) (by decide +kernel)) (fun _ _ _ _ _ => pg_tupK (K := K) (n := 3) (by rfl) (pgs_cons (pg_name (i := 1) sc_levels_of.nd rfl (Or.inl rfl)) (pgs_cons (pg_name (i := 2) sc_levels_of.nd rfl (Or.inl rfl)) (pgs_cons (pg_name (i := 3) sc_levels_of.nd rfl (Or.inl rfl)) pgs_nil)))) (fun _ _ _ _ _ => by exact (pts_one (pt_val (pe_callB (call_isiF (K := K)) (by rfl) (T.free _ (by decide)) (by decide +kernel) (pa_cons (pv 3) (pa_cons (C8.pe_gc (v := .ref (He.ga K "Group")) (by rfl) ⟨_, T.glo _ (by decide), rfl⟩) pa_nil)))))) (fun _ _ _ _ _ => by exact (pe_pr ih hr (by omega) (pv 3))))) pa_nil))))), ?_⟩
    have hxl := hT.len
    have hlc : EvL (tLc (iOr (iTup K (tVar 0)) (iList K (tVar 0))) (gTup K 3 (fun xs σ H Q => ∃ x r, xs = x :: r ∧ gName 1 x σ H fun σ H => ∃ x r', r = x :: r' ∧ gName 2 x σ H fun σ H => ∃ x r'', r' = x :: r'' ∧ gName 3 x σ H fun σ H => r'' = [] ∧ Q σ H)) (tB (tCB (rIsiF K) (tCons (tVar 3) (tCons (tC (.ref (He.ga K "Group"))) tNil)))) (tProp (He.ga K "Group") (sp_Group_levels K n) [] C8.E0 (tVar 3)) [1, 2, 3]) (L2.start n_levels_of [.ref a]) H (given xs.length (fun i => isGrp (ts.getD i tnD).what) fun i => .int (kidLvl (lvl n) (ts.getD i tnD).what)) := by
      have hs : ∀ (i : Nat) (H1 : Hp) (x : V) (H2 : Hp), i < xs.length → Ex H H1 → YAt xs i H1 x H2 → ∀ R : L2.St → Hp → Prop, (∀ σ2 H3, Ex H1 H3 → wipe σ2 [1, 2, 3] = wipe (L2.start n_levels_of [.ref a]) [1, 2, 3] → EvT (tB (tCB (rIsiF K) (tCons (tVar 3) (tCons (tC (.ref (He.ga K "Group"))) tNil)))) σ2 H3 (isGrp (ts.getD i tnD).what) → (isGrp (ts.getD i tnD).what = true → Ev (tProp (He.ga K "Group") (sp_Group_levels K n) [] C8.E0 (tVar 3)) σ2 H3 (.int (kidLvl (lvl n) (ts.getD i tnD).what))) → R σ2 H3) →
          gTup K 3 (fun xs σ H Q => ∃ x r, xs = x :: r ∧ gName 1 x σ H fun σ H => ∃ x r', r = x :: r' ∧ gName 2 x σ H fun σ H => ∃ x r'', r' = x :: r'' ∧ gName 3 x σ H fun σ H => r'' = [] ∧ Q σ H) x (wipe (L2.start n_levels_of [.ref a]) [1, 2, 3]) H2 R := by
        rintro i H1 x H2 hi e1 ⟨rfl, hx⟩ R hR
        obtain ⟨t, ht, hv⟩ := (hT.ex (fun u l q => kidsV_ex q e1) e1).get hx
        have hg : ts.getD i tnD = t := by rw [List.getD, ht]; rfl
        rw [hg] at hR
        refine g_ten hv fun b wv _ _ hw => hR _ _ (Ex.refl _) rfl (et_B (ev_isGroup T (ev_var rfl) hw)) fun hgr H3 e3 Q3 q3 => ?_
        obtain ⟨nm, sh, wt⟩ := t
        cases wt with
        | rule r => exact nomatch hgr
        | kids l r =>
          obtain ⟨g, dx, u, rfl, q1, q2⟩ := hw
          exact ⟨_, rfl, g, dx, _, rfl, e3 _ _ q1, g, dx, u, r, l, rfl, e3 _ _ q1, kidsV_ex q2 e3, fun H4 e4 => q3 H4 e4⟩
      exact wi_seq ha (fun h => el_lcW _ _ (wi_tup (ev_var rfl) h) walk_tup (by omega) (fun H1 e1 => ex_t e1 h) hs) fun h => el_lcW _ _ (wi_list (ev_var rfl) h) walk_list (by omega) (fun H1 e1 => ex_l e1 h) hs
    have hmap : (given xs.length (fun i => isGrp (ts.getD i tnD).what) fun i => V.int (kidLvl (lvl n) (ts.getD i tnD).what)) = ((ts.filter fun t : TnS (Kid n) => isGrp t.what).map fun t : TnS (Kid n) => kidLvl (lvl n) t.what).map V.int := by
      unfold given
      have e := range_map_get ts tnD (fun t => t)
      rw [List.map_id'] at e
      conv => rhs; rw [← e]
      rw [List.filter_map, List.map_map, List.map_map, hxl]
      rfl
    rw [hmap] at hlc
    refine s_ret (ev_is (ev_op (z := .int (1 + maxL ((ts.filter fun t : TnS (Kid n) => isGrp t.what).map fun t : TnS (Kid n) => kidLvl (lvl n) t.what))) ev_c (y := .int (maxL ((ts.filter fun t : TnS (Kid n) => isGrp t.what).map fun t : TnS (Kid n) => kidLvl (lvl n) t.what))) (fun H1 e1 Q1 q1 => ?_) rv_I0) rfl) k'
    refine el_cat (xs := [.int 0]) (el_lst (ea_cons ev_c ea_nil) (by show 1 ≤ 100000; decide)) hlc ?_ H1 e1 _ fun p H2 _ e2 h2 => ?_
    · rw [List.length_map, List.length_map]
      have := List.length_filter_le (fun t : TnS (Kid n) => isGrp t.what) ts
      show 1 + _ ≤ _
      omega
    · refine ⟨p, 0 :: ((ts.filter fun t : TnS (Kid n) => isGrp t.what).map fun t : TnS (Kid n) => kidLvl (lvl n) t.what), rfl, sq_of h2, by simp, fun m hm hmax => ?_⟩
      rw [maxL_one hm hmax]
      exact q1 H2 e2
end
end N32
set_option Elab.async false
set_option linter.all false
set_option maxRecDepth 100000
set_option maxHeartbeats 4000000

namespace N32
open PySem PySem.Spec PyProof.Rows L2 Evl
section
variable {P : Program} {w : World} {K : PySem.W.Frag} {mg : Str → Option Value} {base : Heap}
theorem cal_mono {k j : Nat} {x : Str} {sp : Sp} {dvs : List V} (c : C8.Cal P w K mg base k x sp dvs) (h : k ≤ j) : C8.Cal P w K mg base j x sp dvs := by
  obtain ⟨f, fd, ps, ds, F, a, b, d, e⟩ := c.ex
  exact ⟨f, fd, ps, ds, F.mono h, a, b, d, e⟩
theorem ok_levels0 (T : Ctx K mg) : C8.Cal P w K mg base 1 "levels_of" (sp_levels_of K 0) [] := by
  refine cal_of T.f_levels_of (T.glo _ (by decide)) (N := n_levels_of) sc_levels_of (fun _ _ _ _ _ _ us hl => match us, hl with | [_], _ => rfl) (fun vs H Q E h => (show False from h).elim) (fun cdv A outer s H vs Q E hr h => (show False from h).elim)
theorem ok_levels_of3 (T : Ctx K mg) : C8.Cal P w K mg base 13 "levels_of" (sp_levels_of K 3) [] :=
  cal_mono (ok_levels_of (ok_Group_levels (ok_levels_of (ok_Group_levels (ok_levels_of (ok_Group_levels (ok_levels0 T) T) T) T) T) T) T) (by decide)
end
/-- a tree of tenants as the law makes it -/
def TreeW {α : Type} (f : List Str → Int → List α → Prop) (share : Int) : What α → Prop
  | .rule r => r < 6
  | .kids l r => r < 6 ∧ f subN share l
structure TreeS {α : Type} (f : List Str → Int → List α → Prop) (names : List Str) (room : Int) (ts : List (TnS α)) : Prop where
  pre : ∃ k, ts.map (·.name) = names.take k
  len : ts.length ≤ 8
  sum : (ts.map (·.share)).sum ≤ room
  ten : ∀ t ∈ ts, 0 ≤ t.share ∧ t.share ≤ 8 ∧ TreeW f t.share t.what
  ne : 1 ≤ ts.length
def TreeOk : (n : Nat) → List Str → Int → List (Kid n) → Prop
  | 0 => fun _ _ _ => False
  | n + 1 => fun names room ts => TreeS (TreeOk n) names room ts
theorem TreeS.names {α : Type} {f : List Str → Int → List α → Prop} {names : List Str} {room : Int} {ts : List (TnS α)} (h : TreeS f names room ts) (hn : names.Nodup) (hs : ∀ x ∈ names, x ∈ namesL) : (ts.map (·.name)).Nodup ∧ ∀ t ∈ ts, t.name ∈ namesL := by
  obtain ⟨k, hk⟩ := h.pre
  refine ⟨by rw [hk]; exact hn.sublist (List.take_sublist _ _), fun t ht => hs _ ?_⟩
  have : t.name ∈ ts.map (·.name) := List.mem_map_of_mem ht
  rw [hk] at this
  exact List.mem_of_mem_take this
def leavesT {α : Type} (f : List α → Str → List Str) (above : Str) (t : TnS α) : List Str := match t.what with
  | .rule _ => [above ++ t.name]
  | .kids l _ => f l (above ++ t.name ++ "/")
def leavesS {α : Type} (f : List α → Str → List Str) (ts : List (TnS α)) (above : Str) : List Str := ts.flatMap (leavesT f above)
def leavesK : (n : Nat) → List (Kid n) → Str → List Str
  | 0 => fun _ _ => []
  | n + 1 => fun ts above => leavesS (leavesK n) ts above
theorem leavesS_len {α : Type} {g : List Str → Int → List α → Prop} {f : List α → Str → List Str} {b : Nat} (hb : 1 ≤ b) (hf : ∀ names room l above, g names room l → (f l above).length ≤ b) {above : Str} : ∀ {ts : List (TnS α)}, (∀ t ∈ ts, match t.what with
    | .rule _ => True
    | .kids l _ => ∃ names room, g names room l) → (leavesS f ts above).length ≤ ts.length * b
  | [], _ => Nat.zero_le _
  | t :: ts, h => by
    have ih := leavesS_len hb hf (above := above) (ts := ts) fun u hu => h u (List.mem_cons_of_mem _ hu)
    have h1 := h t List.mem_cons_self
    have h2 : (leavesT f above t).length ≤ b := by
      unfold leavesT
      cases hw : t.what with
      | rule r => exact hb
      | kids l r => rw [hw] at h1; obtain ⟨names, room, q⟩ := h1; exact hf names room l _ q
    unfold leavesS at *
    rw [List.flatMap_cons, List.length_append, List.length_cons, Nat.add_mul, Nat.one_mul]
    omega
theorem leavesK_len : ∀ (n : Nat) (names : List Str) (room : Int) (ts : List (Kid n)) (above : Str), TreeOk n names room ts → (leavesK n ts above).length ≤ 8 ^ n
  | 0, _, _, _, _, h => h.elim
  | n + 1, names, room, ts, above, h => by
    have h : TreeS (TreeOk n) names room ts := h
    have h1 := leavesS_len (g := TreeOk n) (f := leavesK n) (b := 8 ^ n) (above := above) (Nat.pow_pos (by decide)) (fun names room l above q => leavesK_len n names room l above q) (ts := ts) fun t ht => by
      have := (h.ten t ht).2.2
      cases hw : t.what with
      | rule r => trivial
      | kids l r => rw [hw] at this; exact ⟨_, _, this.2⟩
    have h2 : ts.length * 8 ^ n ≤ 8 * 8 ^ n := Nat.mul_le_mul_right _ h.len
    have h3 : 8 ^ (n + 1) = 8 * 8 ^ n := by rw [Nat.pow_succ, Nat.mul_comm]
    have h4 : (leavesK (n + 1) ts above).length = (leavesS (leavesK n) ts above).length := rfl
    rw [h4, h3]
    exact Nat.le_trans h1 h2
section
variable {K : PySem.W.Frag} {σ : L2.St} {H : Hp} {ta tb te tl : TE} {g : TG} {tu tz : TS} {D : Ends}
theorem s_forS {a : Addr} {xs : List V} (h : Ev tl σ H (.ref a)) (hx : SeqV H a xs) (Pv : Nat → L2.St → Hp → Prop) (h0 : ∀ H1, Ex H H1 → Pv 0 σ H1) (hl : ∀ i σ' H', i ≤ xs.length → Pv i σ' H' → Ex H H')
    (hs : ∀ i x σ' H', xs[i]? = some x → Pv i σ' H' → g x σ' H' fun σ2 H2 => tu { D with nx := Pv (i + 1), ct := Pv (i + 1), bk := D.nx } σ2 H2) (hd : ∀ σ' H', Pv xs.length σ' H' → D.nx σ' H') : tFor (iOr (iTup K tl) (iList K tl)) g tu D σ H := by
  rcases hx with hx | hx
  · exact .inl (s_forT (K := K) (D := D) h (st_of hx) Pv h0 (fun i σ' H' hi p => st_of (hl i σ' H' hi p _ _ hx)) hs hd)
  · exact .inr (s_forL (K := K) (D := D) h (sq_of hx) Pv h0 (fun i σ' H' hi p => sq_of (hl i σ' H' hi p _ _ hx)) hs hd)
theorem ev_cat {x y : Str} (ha : Ev ta σ H (.str x)) (hb : Ev tb σ H (.str y)) (hl : x.length + y.length ≤ 100000) : Ev (tOp (fun x y H Q => ∃ i j, x = .str i ∧ y = .str j ∧ i.length + j.length ≤ sizeLine ∧ Q (.str (i ++ j)) H) ta tb) σ H (.str (x ++ y)) :=
  ev_op ha hb fun H1 _ Q q => ⟨x, y, rfl, rfl, sz_of hl, q H1 (Ex.refl H1)⟩
end

section
variable {P : Program} {w : World} {K : PySem.W.Frag} {mg : Str → Option Value} {base : Heap}
abbrev n_lending_of : List Str := ["value"]
theorem sc_lending_of : FnScope n_lending_of ["value"] (defScope s_lending_of) := C8.fnScope_by (by decide +kernel)
def sp_lending_of (K : PySem.W.Frag) : Sp := fun vs H Q _ => ∃ r : Nat, vs = [.ref (fR K r)] ∧ r < 6 ∧ RetV (.ref (fR K r)) H Q
theorem ok_lending_of  (T : Ctx K mg) : C8.Cal P w K mg base 3 "lending_of" (sp_lending_of K) [] := by
  refine cal_of T.f_lending_of (T.glo _ (by decide)) (N := n_lending_of) sc_lending_of (fun _ _ _ _ _ _ us hl => match us, hl with | [_], _ => rfl) (fun vs H Q E h => ?len) (fun cdv A outer s H vs Q E hr h => ?body)
  case len =>
    obtain ⟨_, rfl, _⟩ := h
    rfl
  case body =>
    obtain ⟨r, rfl, h6, k⟩ := h
    refine ⟨_, (pss_cons (ps_if (pt_cmpR op_isN (pv 0) pe_non (by rfl)) (pss_one (ps_ret (C8.pe_gc (v := .ref (He.ga K "longest_unused")) (by rfl) ⟨_, T.glo _ (by decide), rfl⟩))) pss_nil) (pss_cons (ps_expr (C8.pe_c (ok_check_rule T) hr (by decide) (by rfl) (pa_cons (pv 0) pa_nil))) (pss_one (ps_ret (pv 0))))), ?_⟩
    refine q_when (b := false) (et_is (et_test (ev_op (ev_var rfl) ev_c rv_isN)) rfl) (fun h => nomatch h) fun _ H1 e1 => ?_
    refine q_drop (ev_callV (ea_cons (ev_var rfl) ea_nil) fun H2 _ Q q => ⟨r, rfl, h6, q⟩) fun H2 e2 => ?_
    exact s_ret (ev_var rfl) fun H3 e3 => k H3 ((e1.trans e2).trans e3)
end
section
variable {P : Program} {w : World} {K : PySem.W.Frag} {mg : Str → Option Value} {base : Heap}
abbrev n_Group_tenants : List Str := ["self"]
theorem sc_Group_tenants : FnScope n_Group_tenants ["self"] (defScope s_Group_tenants) := C8.fnScope_by (by decide +kernel)
def sp_Group_tenants (K : PySem.W.Frag) : Sp := fun vs H Q _ => ∃ (g dx u : Addr) (lv : V), vs = [.ref g] ∧ H g = some (.ins (He.ga K "Group") dx [("own_tenants", .ref u), ("own_lending", lv)]) ∧ RetV (.ref u) H Q
theorem ok_Group_tenants  (T : Ctx K mg) : Prp P w K mg base 1 (He.ga K "Group") "tenants" (sp_Group_tenants K) := by
  refine prp_of T.f_Group_tenants (T.cls _ (by decide)) (T.prop ("Group", "tenants") (by decide)) (N := n_Group_tenants) sc_Group_tenants (fun _ _ _ _ _ _ us hl => match us, hl with | [_], _ => rfl) (fun vs H Q E h => ?len) (fun cdv A outer s H vs Q E hr h => ?body)
  case len =>
    obtain ⟨_, _, _, _, rfl, _⟩ := h
    rfl
  case body =>
    obtain ⟨g, dx, u, lv, rfl, hg, k⟩ := h
    refine ⟨_, (pss_one (ps_ret (pe_fldK (K := K) (pv 0)))), ?_⟩
    exact s_ret (ev_fld (ev_var rfl) hg (T.cls "Group" (by decide)) (T.noat ("Group", "own_tenants") (by decide)) rfl) k
end
section
variable {P : Program} {w : World} {K : PySem.W.Frag} {mg : Str → Option Value} {base : Heap}
abbrev n_is_tenant : List Str := ["value"]
theorem sc_is_tenant : FnScope n_is_tenant ["value"] (defScope s_is_tenant) := C8.fnScope_by (by decide +kernel)
def sp_is_tenant (K : PySem.W.Frag) : Sp := fun vs H Q _ => ∃ (n : Nat) (v : V) (t : TnS (Kid n)), vs = [v] ∧ TenV K (kidsV K n) H v t ∧ t.name ∈ namesL ∧ 0 ≤ t.share ∧ t.share ≤ 1000 ∧ RetV (.bl true) H Q
theorem ok_is_tenant  (T : Ctx K mg) : C8.Cal P w K mg base 3 "is_tenant" (sp_is_tenant K) [] := by
  refine cal_of T.f_is_tenant (T.glo _ (by decide)) (N := n_is_tenant) sc_is_tenant (fun _ _ _ _ _ _ us hl => match us, hl with | [_], _ => rfl) (fun vs H Q E h => ?len) (fun cdv A outer s H vs Q E hr h => ?body)
  case len =>
    obtain ⟨_, _, _, rfl, _⟩ := h
    rfl
  case body =>
    obtain ⟨n, v, t, rfl, ⟨a, wv, rfl, ha, hw⟩, hn, h0, h8, k⟩ := h
    refine ⟨_, (pss_cons (ps_if (PW.pt (pw_or (pt_not (pt_val (pe_callB (call_isiF (K := K)) (by rfl) (T.free _ (by decide)) (by decide +kernel) (pa_cons (pv 0) (pa_cons (pe_bltn (v := .ty "tuple") (by rfl) (T.free _ (by decide)) (by decide +kernel) rfl) pa_nil))))) (pw_or (pt_cmpR op_ne (pe_callB (call_len_seqK (K := K)) (by rfl) (T.free _ (by decide)) (by decide +kernel) (pa_cons (pv 0) pa_nil)) pe_int (by rfl)) (pw_or1 (pt_not (pt_val (C8.pe_c (ok_is_name T) hr (by decide) (by rfl) (pa_cons (pe_ix (ix_tupK (K := K)) (pv 0) pe_int (fun _ _ => rfl)) pa_nil)))))))) (pss_one (ps_ret pe_bl)) pss_nil) (pss_one (ps_ret (pe_and (C8.pe_c (ok_is_between T) hr (by decide) (by rfl) (pa_cons (pe_ix (ix_tupK (K := K)) (pv 0) pe_int (fun _ _ => rfl)) (pa_cons pe_int (pa_cons (C8.pe_gc (v := .int 1000000000) (by rfl) (const_of T.mostNumber)) pa_nil)))) (pe_one (pe_or (pe_callB (call_isiF (K := K)) (by rfl) (T.free _ (by decide)) (by decide +kernel) (pa_cons (pe_ix (ix_tupK (K := K)) (pv 0) pe_int (fun _ _ => rfl)) (pa_cons (C8.pe_gc (v := .ref (He.ga K "Group")) (by rfl) ⟨_, T.glo _ (by decide), rfl⟩) pa_nil))) (pe_one (C8.pe_c (ok_is_rule T) hr (by decide) (by rfl) (pa_cons (pe_ix (ix_tupK (K := K)) (pv 0) pe_int (fun _ _ => rfl)) pa_nil))))))))), ?_⟩
    have ix : ∀ (H1 : Hp) (σ : L2.St) (i : Int) (y : V), Ex H H1 → σ[0]? = some (some (.ref a)) → atI [.str t.name, .int t.share, wv] i = some y → Ev (tOp (rIxT K) (tVar 0) (tC (.int i))) σ H1 y := fun H1 σ i y e hσ hy => ev_op (ev_var hσ) ev_c (rv_ixT (st_of (e _ _ ha)) hy)
    refine q_when (b := false) (et_or (a := false) (b := false) (et_not (a := true) (et_B (ev_isi (ev_var rfl) (.ty "tuple") (fun H1 e => ty_tup (e _ _ ha)) (kit_ty (by decide +kernel))))) fun _ => et_or (a := false) (b := false) (et_test (ev_op (ev_is (ev_lenT (ev_var rfl) (st_of ha)) (show V.int _ = V.int 3 from rfl)) ev_c (rv_ne2 (b := false) rfl (by decide)))) fun _ =>
      et_not (a := true) (et_B (ev_callV (ea_cons (ix H _ 0 (.str t.name) (Ex.refl _) rfl rfl) ea_nil) fun H1 _ Q k => ⟨t.name, rfl, hn, k⟩))) (fun h => nomatch h) fun _ H1 e1 => ?_
    refine s_ret (ev_is (ev_andV (a := true) (b := true) (ev_callV (ea_cons (ix H1 _ 1 (.int t.share) e1 rfl rfl) (ea_cons ev_c (ea_cons ev_c ea_nil))) fun H1 _ Q k => ⟨t.share, 0, 1000000000, rfl, h0, by omega, k⟩) fun _ => ?_) rfl) fun H2 e2 => k H2 (e1.trans e2)
    have hw1 : WhatV K (kidsV K n) H1 wv t.what := hw.ex (fun u l q => kidsV_ex q e1) e1
    have hg := ev_isGroup (σ := L2.start n_is_tenant [V.ref a]) (kids := kidsV K n) (wt := t.what) T (ix H1 _ 2 wv e1 rfl rfl) hw1
    cases hq : t.what with
    | rule r =>
      rw [hq] at hg hw
      obtain ⟨rfl, h6⟩ := hw
      exact ev_is (ev_orV (a := false) (b := true) hg fun _ => ev_callV (ea_cons (ix H1 _ 2 _ e1 rfl rfl) ea_nil) fun H2 _ Q k => ⟨r, rfl, h6, k⟩) rfl
    | kids l r =>
      rw [hq] at hg
      exact ev_is (ev_orV (a := true) (b := false) hg fun h => nomatch h) rfl
end
section
variable {P : Program} {w : World} {K : PySem.W.Frag} {mg : Str → Option Value} {base : Heap}
abbrev n_check_tenants : List Str := ["tenants", "names", "position", "tenant"]
theorem sc_check_tenants : FnScope n_check_tenants ["tenants"] (defScope s_check_tenants) := C8.fnScope_by (by decide +kernel)
def sp_check_tenants (K : PySem.W.Frag) : Sp := fun vs H Q _ => ∃ (n : Nat) (l : Addr) (xs : List V) (ts : List (TnS (Kid n))), vs = [.ref l] ∧ H l = some (.lst xs) ∧ TenL K (kidsV K n) H xs ts ∧ ts.length ≤ 8 ∧ (ts.map (·.name)).Nodup ∧ (∀ t ∈ ts, t.name ∈ namesL ∧ 0 ≤ t.share ∧ t.share ≤ 1000) ∧ RetV .non H Q
theorem ok_check_tenants  (T : Ctx K mg) : C8.Cal P w K mg base 4 "check_tenants" (sp_check_tenants K) [] := by
  refine cal_of T.f_check_tenants (T.glo _ (by decide)) (N := n_check_tenants) sc_check_tenants (fun _ _ _ _ _ _ us hl => match us, hl with | [_], _ => rfl) (fun vs H Q E h => ?len) (fun cdv A outer s H vs Q E hr h => ?body)
  case len =>
    obtain ⟨_, _, _, _, rfl, _⟩ := h
    rfl
  case body =>
    obtain ⟨n, l, xs, ts, rfl, hl, hT, h8, hnd, hok, k⟩ := h
    refine ⟨_, (pss_cons (ps_if (PW.pt (pw_or (pt_not (pt_val (pe_callB (call_isiTF (K := K)) (by rfl) (T.free _ (by decide)) (by decide +kernel) (pa_cons (pv 0) (pa_cons (pe_tup (pa_cons (pe_bltn (v := .ty "list") (by rfl) (T.free _ (by decide)) (by decide +kernel) rfl) (pa_cons (pe_bltn (v := .ty "tuple") (by rfl) (T.free _ (by decide)) (by decide +kernel) rfl) pa_nil))) pa_nil))))) (pw_or1 (pt_cmpR op_gt (pe_callB (call_len_seqK (K := K)) (by rfl) (T.free _ (by decide)) (by decide +kernel) (pa_cons (pv 0) pa_nil)) (C8.pe_gc (v := .int 8) (by rfl) (const_of T.mostTenants)) (by rfl))))) (pss_one ps_never) pss_nil) (pss_cons (ps_set (i := 1) sc_check_tenants.nd rfl (Or.inl rfl) (pe_lst pa_nil)) (pss_one (ps_for PassesOwn.never (by rfl) (pi_enumK (K := K) (by rfl) (T.free _ (by decide)) (pa_cons (pv 0) pa_nil)) (pg_tupK (K := K) (n := 2) (by rfl) (pgs_cons (pg_name (i := 2) sc_check_tenants.nd rfl (Or.inl rfl)) (pgs_cons (pg_name (i := 3) sc_check_tenants.nd rfl (Or.inl rfl)) pgs_nil))) (pss_cons (ps_if (PW.pt (pw_or (pt_not (pt_val (C8.pe_c (ok_is_tenant T) hr (by decide) (by rfl) (pa_cons (pv 3) pa_nil)))) (pw_or1 (pt_cmpR (op_in_seqK (K := K)) (pe_ix (ix_tupK (K := K)) (pv 3) pe_int (fun _ _ => rfl)) (pv 1) (by rfl))))) (pss_one ps_never) pss_nil) (pss_one (ps_expr (pe_bmK (K := K) PySem.F.plainAttrs_list PySem.F.slot_list_append PySem.F.type_list_append mt_append (pv 1) (pa_cons (pe_ix (ix_tupK (K := K)) (pv 3) pe_int (fun _ _ => rfl)) pa_nil))))))))), ?_⟩
    have hxl := hT.len
    refine q_when (b := false) (et_or (a := false) (b := false) (et_not (a := true) (et_B (ev_isiT (t := .non) (cs := [.ty "list", .ty "tuple"]) (ev_var rfl) (eu_tup (ea_cons ev_c (ea_cons ev_c ea_nil)) (by show 2 ≤ 100000; decide)) (.cons (.ty _) (.cons (.ty _) .nil)) (fun H1 e => ty_lst (e _ _ hl)) (kitAny_cons (b := true) (kit_ty (by decide +kernel)) (fun h => nomatch h) fun _ => rfl)))) fun _ => et_is (et_test (ev_op (ev_len (ev_var rfl) (sq_of hl)) ev_c rv_I0)) (decide_eq_false (by omega))) (fun h => nomatch h) fun _ H1 e1 => ?_
    refine q_asgL (xs := []) (el_lst ea_nil (Nat.zero_le _)) fun f H2 hf e2 h2 => ?_
    have e02 := e1.trans e2
    have hf0 : H f = none := fresh_back e1 hf
    refine ⟨_, rfl, l, xs, rfl, sq_of (e02 _ _ hl), for_it walk_enum (fun i σ' H' => Ex H H' ∧ (∃ (a b : Option V), σ' = [some (.ref l), some (.ref f), a, b]) ∧ H' f = some (.lst (((ts.take i).map (·.name)).map V.str))) ⟨e02, ⟨_, _, rfl⟩, h2⟩ (fun i σ' H' _ p => sq_of (p.1 _ _ hl)) ?_ fun σ' H' p => k H' p.1⟩
    rintro i x σ' H' H3 hi ⟨p1, ⟨a, b, rfl⟩, p3⟩ ⟨t, x1, y, rfl, ht, rfl, ha, hb⟩
    cases ha
    have eT : Ex H' (upd H' t (.tup [.int (i : Nat), y])) := Ex.new ht
    obtain ⟨tn, htn, hv⟩ := (hT.ex (fun u l q => kidsV_ex q (p1.trans eT)) (p1.trans eT)).get hb
    have hok1 := hok tn (List.mem_of_getElem? htn)
    have hilt : i < ts.length := (List.getElem?_eq_some_iff.mp htn).1
    refine ⟨t, _, rfl, st_of upd_same, rfl, _, _, rfl, _, _, rfl, rfl, ?_⟩
    have hv' := hv
    obtain ⟨ty, wv, rfl, hty, _⟩ := hv'
    have hnin : inV (.str tn.name) (((ts.take i).map (·.name)).map V.str) = false := by
      unfold inV
      rw [List.any_map, List.any_eq_false]
      intro nm hm he
      have he : (tn.name == nm) = true ∨ (nm == tn.name) = true := by
        first
        | exact .inl he
        | exact .inr he
      have he2 : tn.name = nm := by
        rcases he with he | he
        · simpa using he
        · exact (by simpa using he : nm = tn.name).symm
      obtain ⟨t2, ht2, e2'⟩ := List.mem_map.mp hm
      obtain ⟨j, hj⟩ := List.mem_iff_getElem?.mp ht2
      rw [List.getElem?_take] at hj
      split at hj
      · rename_i hji
        have a1 : (ts.map (·.name))[j]? = some tn.name := by rw [List.getElem?_map, hj, he2, ← e2']; rfl
        have a2 : (ts.map (·.name))[i]? = some tn.name := by rw [List.getElem?_map, htn]; rfl
        have := nd_ix hnd a1 a2
        omega
      · cases hj
    have hp3 := eT _ _ p3
    refine q_when (b := false) (et_or (a := false) (b := false) (et_not (a := true) (et_B (ev_callV (ea_cons (ev_var rfl) ea_nil) fun H5 e5 Q k => ⟨n, _, tn, rfl, hv.ex (fun u l q => kidsV_ex q e5) e5, hok1.1, hok1.2.1, hok1.2.2, k⟩))) fun _ => et_is (et_test (ev_op (ev_op (ev_var rfl) ev_c (rv_ixT (st_of hty) (v := .str tn.name) rfl)) (ev_var rfl) (rv_isL (sq_of hp3) rfl (by rw [List.all_map]; exact List.all_eq_true.mpr fun _ _ => rfl)))) hnin) (fun h => nomatch h) fun _ H4 e4 => ?_
    refine s_app (e4 _ _ hp3) (ev_var rfl) (ev_op (ev_var rfl) ev_c (rv_ixT (st_of (e4 _ _ hty)) (v := .str tn.name) rfl)) (by rw [List.length_map, List.length_map, List.length_take]; omega) fun H5 e5 => ⟨Ex.mut (((p1.trans eT).trans e4).trans e5) hf0, ⟨_, _, rfl⟩, ?_⟩
    rw [upd_same, List.take_add_one, htn]
    simp
end
section
variable {P : Program} {w : World} {K : PySem.W.Frag} {mg : Str → Option Value} {base : Heap}
abbrev n_Group_init : List Str := ["self", "tenants", "lending"]
theorem sc_Group_init : FnScope n_Group_init ["self", "tenants", "lending"] (defScope s_Group_init) := C8.fnScope_by (by decide +kernel)
def sp_Group_init (K : PySem.W.Frag) : Sp := fun vs H Q _ => ∃ (g dx l : Addr) (n r : Nat) (xs : List V) (ts : List (TnS (Kid n))) (R : List HP), vs = [.ref g, .ref l, .ref (fR K r)] ∧ Sat H (pt g (.ins (He.ga K "Group") dx []) :: pt l (.lst xs) :: R) ∧ TenL K (kidsV K n) H xs ts ∧ ts.length ≤ 8 ∧ (ts.map (·.name)).Nodup ∧ (∀ t ∈ ts, t.name ∈ namesL ∧ 0 ≤ t.share ∧ t.share ≤ 1000) ∧ r < 6 ∧
  ∀ u H', Sat H' (pt g (.ins (He.ga K "Group") dx [("own_tenants", .ref u), ("own_lending", .ref (fR K r))]) :: pt l (.lst xs) :: R) → H' u = some (.tup xs) → Tu H H' → Q .non H'
theorem ok_Group_init  (T : Ctx K mg) : MakK P w K mg base 5 "Group" (He.ga K "Group") 1 ["lending"] (sp_Group_init K) (fun vs zs => vs ++ zs) := by
  refine makK_of (n := 1) (ks := ["lending"]) (ms := []) (fun vs mz zs => vs ++ zs) (N := n_Group_init) T.f_Group_init (T.mks "Group" (by decide)) (T.glo _ (by decide)) sc_Group_init (by decide) (by decide) (fun a b c => a.append c)
    (fun D doc pm an cdv ct us mv ws h1 h2 h3 => ?chain) (fun vs H Q E h => ?len) (fun cdv A outer s H vs Q E hr h => ?body)
  case chain =>
    match us, mv, ws, h1, h2, h3 with
    | [a, b], [], [f], _, _, _ => exact rfl
  case len =>
    obtain ⟨_, _, _, _, _, _, _, _, rfl, _⟩ := h
    rfl
  case body =>
    obtain ⟨g, dx, l, n, r, xs, ts, R, rfl, S, hT, h8, hnd, hok, h6, k⟩ := h
    refine ⟨_, (pss_cons (ps_expr (C8.pe_c (ok_check_tenants T) hr (by decide) (by rfl) (pa_cons (pv 1) pa_nil))) (pss_cons (ps_fldK (K := K) (pv 0) (pe_callTy (call_tuple_ofK (K := K)) (by rfl) (T.free _ (by decide)) (by decide +kernel) (pa_cons (pv 1) pa_nil))) (pss_one (ps_fldK (K := K) (pv 0) (C8.pe_c (ok_lending_of T) hr (by decide) (by rfl) (pa_cons (pv 2) pa_nil)))))), ?_⟩
    have c := T.cls "Group" (by decide)
    refine q_drop (ev_callV (ea_cons (ev_var rfl) ea_nil) fun H1 e1 Q q => ⟨n, l, xs, ts, rfl, e1 _ _ (S.get 1 rfl), hT.ex (fun u l q => kidsV_ex q e1) e1, h8, hnd, hok, q⟩) fun H1 e1 => ?_
    have S1 := S.same e1
    refine q_fldU (xs := xs) (ew_tupleV (ev_var rfl) (S1.get 1 rfl)) (ev_var rfl) S1 c (T.noat ("Group", "own_tenants") (by decide)) lt1000 fun u H2 S2 t2 hu => ?_
    refine s_fldS (y := .ref (fR K r)) (ev_callV (ea_cons (ev_var rfl) ea_nil) fun H3 _ Q q => ⟨r, rfl, h6, q⟩) (ev_var rfl) S2 c (T.noat ("Group", "own_lending") (by decide)) lt1000 fun H3 S3 t3 => ?_
    exact k u H3 S3 (t3 _ _ hu) (((Ex.tu e1).trans t2).trans t3)
end
end N32
set_option Elab.async false
set_option linter.all false
set_option maxRecDepth 100000
set_option maxHeartbeats 4000000

namespace N32
open PySem PySem.Spec PyProof.Rows L2 Evl
def sp_check_fit (K : PySem.W.Frag) : Nat → Sp
  | 0 => fun _ _ _ _ => False
  | n + 1 => fun vs H Q _ => ∃ (a : Addr) (xs : List V) (ts : List (TnS (Kid n))) (names : List Str) (frames : Int), vs = [.int frames, .ref a] ∧ SeqV H a xs ∧ TenL K (kidsV K n) H xs ts ∧ TreeS (TreeOk n) names frames ts ∧ RetV .non H Q
def sp_leaves_of (K : PySem.W.Frag) : Nat → Sp
  | 0 => fun _ _ _ _ => False
  | n + 1 => fun vs H Q _ => ∃ (u : Addr) (xs : List V) (ts : List (TnS (Kid n))) (names : List Str) (room : Int) (above : Str), vs = [.ref u, .str above] ∧ H u = some (.tup xs) ∧ TenL K (kidsV K n) H xs ts ∧ TreeS (TreeOk n) names room ts ∧ (∀ x ∈ names, x ∈ namesL) ∧ n ≤ 3 ∧ above.length + 30 * (n + 1) ≤ 200 ∧ RetL ((leavesS (leavesK n) ts above).map V.str) H Q
theorem TreeS.name {α : Type} {f : List Str → Int → List α → Prop} {names : List Str} {room : Int} {ts : List (TnS α)} (h : TreeS f names room ts) (hs : ∀ x ∈ names, x ∈ namesL) {t : TnS α} (ht : t ∈ ts) : t.name.length ≤ 8 := by
  obtain ⟨k, hk⟩ := h.pre
  have : t.name ∈ ts.map (·.name) := List.mem_map_of_mem ht
  rw [hk] at this
  exact (namesL_txt _ (hs _ (List.mem_of_mem_take this))).2.1
theorem leavesS_take {α : Type} {f : List α → Str → List Str} {ts : List (TnS α)} {above : Str} {i : Nat} {t : TnS α} (h : ts[i]? = some t) : leavesS f (ts.take (i + 1)) above = leavesS f (ts.take i) above ++ leavesT f above t := by
  unfold leavesS
  rw [List.take_add_one, h, List.flatMap_append]
  simp
theorem topN_in : ∀ x ∈ topN, x ∈ namesL := by decide
theorem subN_in : ∀ x ∈ subN, x ∈ namesL := by decide

section
variable {P : Program} {w : World} {K : PySem.W.Frag} {mg : Str → Option Value} {base : Heap}
abbrev n_check_fit : List Str := ["frames", "tenants", "total", "name", "share", "what"]
theorem sc_check_fit : FnScope n_check_fit ["frames", "tenants"] (defScope s_check_fit) := C8.fnScope_by (by decide +kernel)

theorem ok_check_fit {n k : Nat} (ih : C8.Cal P w K mg base k "check_fit" (sp_check_fit K n) []) (T : Ctx K mg) : C8.Cal P w K mg base (k + 3) "check_fit" (sp_check_fit K (n + 1)) [] := by
  refine cal_of T.f_check_fit (T.glo _ (by decide)) (N := n_check_fit) sc_check_fit (fun _ _ _ _ _ _ us hl => match us, hl with | [_, _], _ => rfl) (fun vs H Q E h => ?len) (fun cdv A outer s H vs Q E hr h => ?body)
  case len =>
    obtain ⟨_, _, _, _, _, rfl, _⟩ := h
    rfl
  case body =>
    obtain ⟨a, xs, ts, names, frames, rfl, ha, hT, hO, k'⟩ := h
    refine ⟨_, (pss_cons (ps_set (i := 2) sc_check_fit.nd rfl (Or.inl rfl) (pe_callB (cr_sumK (K := K) rfl) (by rfl) (T.free _ (by decide)) (by decide +kernel) (pa_cons (pe_lc (own := [("name", 3), ("share", 4), ("what", 5)]) (by rfl) sc_check_fit.nd (pi_or (pi_tupK (K := K) (pv 1)) (pi_listK (K := K) (pv 1))) (blkOk_by (own := [("name", 3), ("share", 4), ("what", 5)]) (N := n_check_fit) (sc := defScope s_check_fit) (by decide +kernel)) (fun _ _ _ _ _ => pg_tupK (K := K) (n := 3) (by rfl) (pgs_cons (pg_name (i := 3) sc_check_fit.nd rfl (Or.inl rfl)) (pgs_cons (pg_name (i := 4) sc_check_fit.nd rfl (Or.inl rfl)) (pgs_cons (pg_name (i := 5) sc_check_fit.nd rfl (Or.inl rfl)) pgs_nil)))) (fun _ _ _ _ _ => by exact pts_nil) (fun _ _ _ _ _ => by exact (pv 4))) pa_nil))) (pss_cons (ps_if (pt_cmpR op_gt (pv 2) (pv 0) (by rfl)) (pss_one ps_never) pss_nil) (pss_one (ps_for PassesOwn.never (by rfl) (pi_or (pi_tupK (K := K) (pv 1)) (pi_listK (K := K) (pv 1))) (pg_tupK (K := K) (n := 3) (by rfl) (pgs_cons (pg_name (i := 3) sc_check_fit.nd rfl (Or.inl rfl)) (pgs_cons (pg_name (i := 4) sc_check_fit.nd rfl (Or.inl rfl)) (pgs_cons (pg_name (i := 5) sc_check_fit.nd rfl (Or.inl rfl)) pgs_nil)))) (pss_one (ps_if (pt_val (pe_callB (call_isiF (K := K)) (by rfl) (T.free _ (by decide)) (by decide +kernel) (pa_cons (pv 5) (pa_cons (C8.pe_gc (v := .ref (He.ga K "Group")) (by rfl) ⟨_, T.glo _ (by decide), rfl⟩) pa_nil)))) (pss_one (ps_expr (C8.pe_c ih hr (by omega) (by rfl) (pa_cons (pv 4) (pa_cons (pe_pr (ok_Group_tenants T) hr (by omega) (pv 5)) pa_nil))))) pss_nil)))))), ?_⟩
    have hxl := hT.len
    have h8 := hO.len
    have hlc : EvL (tLc (iOr (iTup K (tVar 1)) (iList K (tVar 1))) (gTup K 3 (fun xs σ H Q => ∃ x r, xs = x :: r ∧ gName 3 x σ H fun σ H => ∃ x r', r = x :: r' ∧ gName 4 x σ H fun σ H => ∃ x r'', r' = x :: r'' ∧ gName 5 x σ H fun σ H => r'' = [] ∧ Q σ H)) tYes (tVar 4) [3, 4, 5]) (L2.start n_check_fit [.int frames, .ref a]) H (given xs.length (fun _ => true) fun i => .int (ts.getD i tnD).share) := by
      have hs : ∀ (i : Nat) (H1 : Hp) (x : V) (H2 : Hp), i < xs.length → Ex H H1 → YAt xs i H1 x H2 → ∀ R : L2.St → Hp → Prop, (∀ σ2 H3, Ex H1 H3 → wipe σ2 [3, 4, 5] = wipe (L2.start n_check_fit [.int frames, .ref a]) [3, 4, 5] → EvT tYes σ2 H3 true → (true = true → Ev (tVar 4) σ2 H3 (.int (ts.getD i tnD).share)) → R σ2 H3) →
          gTup K 3 (fun xs σ H Q => ∃ x r, xs = x :: r ∧ gName 3 x σ H fun σ H => ∃ x r', r = x :: r' ∧ gName 4 x σ H fun σ H => ∃ x r'', r' = x :: r'' ∧ gName 5 x σ H fun σ H => r'' = [] ∧ Q σ H) x (wipe (L2.start n_check_fit [.int frames, .ref a]) [3, 4, 5]) H2 R := by
        rintro i H1 x H2 hi e1 ⟨rfl, hx⟩ R hR
        obtain ⟨t, ht, hv⟩ := (hT.ex (fun u l q => kidsV_ex q e1) e1).get hx
        have hg : ts.getD i tnD = t := by rw [List.getD, ht]; rfl
        rw [hg] at hR
        exact g_ten hv fun b wv _ _ hw => hR _ _ (Ex.refl _) rfl et_yes fun _ => ev_var rfl
      exact wi_seq ha (fun h => el_lcW _ _ (wi_tup (ev_var rfl) h) walk_tup (by omega) (fun H1 e1 => ex_t e1 h) hs) fun h => el_lcW _ _ (wi_list (ev_var rfl) h) walk_list (by omega) (fun H1 e1 => ex_l e1 h) hs
    have hmap : (given xs.length (fun _ => true) fun i => V.int (ts.getD i tnD).share) = (ts.map (·.share)).map V.int := by
      rw [given_all, hxl, range_map_get ts tnD (fun t => V.int t.share), List.map_map]
      rfl
    rw [hmap] at hlc
    refine q_asg (ev_sum hlc) fun H1 e1 => ?_
    refine q_when (b := false) (et_is (et_test (ev_op (ev_var rfl) (ev_var rfl) rv_I0)) (decide_eq_false (by have := hO.sum; omega))) (fun h => nomatch h) fun _ H2 e2 => ?_
    have e02 := e1.trans e2
    refine s_forS (ev_var rfl) (ha.ex e02) (fun i σ' H' => Ex H2 H' ∧ ∃ (a1 a2 a3 : Option V), σ' = [some (.int frames), some (.ref a), some (.int (ts.map (·.share)).sum), a1, a2, a3]) (fun H3 e3 => ⟨e3, _, _, _, rfl⟩) (fun i σ' H' _ p => p.1) ?_ fun σ' H' p => k' H' (e02.trans p.1)
    rintro i x σ' H' hx ⟨p1, a1, a2, a3, rfl⟩
    have e' := e02.trans p1
    obtain ⟨t, ht, hv⟩ := (hT.ex (fun u l q => kidsV_ex q e') e').get hx
    have htm := List.mem_of_getElem? ht
    refine g_ten hv fun b wv _ _ hw => ?_
    have h3 := (hO.ten t htm).2.2
    obtain ⟨nm, sh, wt⟩ := t
    refine s_when (et_B (ev_isGroup T (ev_var rfl) hw)) (fun hb H3 e3 => ?_) fun hb H3 e3 => ⟨p1.trans e3, _, _, _, rfl⟩
    cases wt with
    | rule r => exact nomatch hb
    | kids l r =>
      obtain ⟨g, dx, u, rfl, q1, q2⟩ := hw
      cases n with
      | zero => exact False.elim q2
      | succ n =>
        refine s_drop (v := .non) (ev_callV (ea_cons (ev_var rfl) (ea_cons (fun H4 e4 Q4 q4 => ⟨_, rfl, g, dx, _, rfl, e4 _ _ (e3 _ _ q1), g, dx, u, _, rfl, e4 _ _ (e3 _ _ q1), fun H5 e5 => q4 H5 e5⟩) ea_nil)) fun H4 e4 Q q => ?_) fun H4 e4 => ⟨(p1.trans e3).trans e4, _, _, _, rfl⟩
        obtain ⟨ys, w1, w2, w3⟩ := kidsV_ex q2 (e3.trans e4)
        exact ⟨u, ys, l, subN, sh, rfl, .inl w1, w2, h3.2, q⟩
end
section
variable {P : Program} {w : World} {K : PySem.W.Frag} {mg : Str → Option Value} {base : Heap}
abbrev n_leaves_of : List Str := ["tenants", "above", "found", "name", "share", "what"]
theorem sc_leaves_of : FnScope n_leaves_of ["tenants", "above"] (defScope s_leaves_of) := C8.fnScope_by (by decide +kernel)

theorem ok_leaves_of {n k : Nat} (ih : C8.Cal P w K mg base k "leaves_of" (sp_leaves_of K n) []) (T : Ctx K mg) : C8.Cal P w K mg base (k + 3) "leaves_of" (sp_leaves_of K (n + 1)) [] := by
  refine cal_of T.f_leaves_of (T.glo _ (by decide)) (N := n_leaves_of) sc_leaves_of (fun _ _ _ _ _ _ us hl => match us, hl with | [_, _], _ => rfl) (fun vs H Q E h => ?len) (fun cdv A outer s H vs Q E hr h => ?body)
  case len =>
    obtain ⟨_, _, _, _, _, _, rfl, _⟩ := h
    rfl
  case body =>
    obtain ⟨u, xs, ts, names, room, above, rfl, hu, hT, hO, hnm, hn3, hal, k'⟩ := h
    refine ⟨_, (pss_cons (ps_set (i := 2) sc_leaves_of.nd rfl (Or.inl rfl) (pe_lst pa_nil)) (pss_cons (ps_for PassesOwn.never (by rfl) (pi_tupK (K := K) (pv 0)) (pg_tupK (K := K) (n := 3) (by rfl) (pgs_cons (pg_name (i := 3) sc_leaves_of.nd rfl (Or.inl rfl)) (pgs_cons (pg_name (i := 4) sc_leaves_of.nd rfl (Or.inl rfl)) (pgs_cons (pg_name (i := 5) sc_leaves_of.nd rfl (Or.inl rfl)) pgs_nil)))) (pss_one (ps_if (pt_val (pe_callB (call_isiF (K := K)) (by rfl) (T.free _ (by decide)) (by decide +kernel) (pa_cons (pv 5) (pa_cons (C8.pe_gc (v := .ref (He.ga K "Group")) (by rfl) ⟨_, T.glo _ (by decide), rfl⟩) pa_nil)))) (pss_one (ps_expr (pe_bmK (K := K) PySem.F.plainAttrs_list PySem.F.slot_list_extend PySem.F.type_list_extend mt_extend (pv 2) (pa_cons (C8.pe_c ih hr (by omega) (by rfl) (pa_cons (pe_pr (ok_Group_tenants T) hr (by omega) (pv 5)) (pa_cons (pe_op op_add_str (pe_op op_add_str (pv 1) (pv 3)) pe_str) pa_nil))) pa_nil)))) (pss_one (ps_expr (pe_bmK (K := K) PySem.F.plainAttrs_list PySem.F.slot_list_append PySem.F.type_list_append mt_append (pv 2) (pa_cons (pe_op op_add_str (pv 1) (pv 3)) pa_nil))))))) (pss_one (ps_ret (pv 2))))), ?_⟩
    have hxl := hT.len
    have h8 := hO.len
    have hp8 : 8 * 8 ^ n ≤ 4096 := Nat.mul_le_mul_left 8 (Nat.pow_le_pow_right (n := 8) (by decide) hn3)
    have hcnt : ∀ i, (leavesS (leavesK n) (ts.take i) above).length ≤ 8 * 8 ^ n := fun i => by
      have h1 := leavesS_len (g := TreeOk n) (f := leavesK n) (b := 8 ^ n) (above := above) (Nat.pow_pos (by decide)) (fun names room l above q => leavesK_len n names room l above q) (ts := ts.take i) fun t ht => by
        have := (hO.ten t (List.mem_of_mem_take ht)).2.2
        cases hw : t.what with
        | rule r => trivial
        | kids l r => rw [hw] at this; exact ⟨_, _, this.2⟩
      refine Nat.le_trans h1 (Nat.mul_le_mul_right _ ?_)
      rw [List.length_take]
      omega
    refine q_asgL (xs := []) (el_lst ea_nil (Nat.zero_le _)) fun f H1 hf e1 h1 => ?_
    refine q_forT (ev_var rfl) (st_of (e1 _ _ hu)) (fun i σ' H' => Ex H H' ∧ (∃ (a1 a2 a3 : Option V), σ' = [some (.ref u), some (.str above), some (.ref f), a1, a2, a3]) ∧ H' f = some (.lst ((leavesS (leavesK n) (ts.take i) above).map V.str))) (fun H2 e2 => ⟨e1.trans e2, ⟨_, _, _, rfl⟩, e2 _ _ h1⟩) (fun i σ' H' _ p => st_of (p.1 _ _ hu)) ?_ ?_
    · rintro i x σ' H' hx ⟨p1, ⟨a1, a2, a3, rfl⟩, p3⟩
      obtain ⟨t, ht, hv⟩ := (hT.ex (fun u l q => kidsV_ex q p1) p1).get hx
      have htm := List.mem_of_getElem? ht
      have htk := leavesS_take (f := leavesK n) (above := above) ht
      have hc1 := hcnt i
      have hc2 := hcnt (i + 1)
      rw [htk] at hc2 ⊢
      generalize leavesS (leavesK n) (ts.take i) above = acc at p3 hc1 hc2 ⊢
      refine g_ten hv fun b wv _ _ hw => ?_
      have h3 := (hO.ten t htm).2.2
      have hnl := hO.name hnm htm
      obtain ⟨nm, sh, wt⟩ := t
      have hnl : nm.length ≤ 8 := hnl
      refine s_if (et_B (ev_isGroup T (ev_var rfl) hw)) (fun hb H3 e3 => ?_) fun hb H3 e3 => ?_
      · cases wt with
        | rule r => exact nomatch hb
        | kids l r =>
          obtain ⟨g, dx, u2, rfl, q1, q2⟩ := hw
          cases n with
          | zero => exact False.elim q2
          | succ n =>
            have p3' := e3 _ _ p3
            refine ⟨_, rfl, .inl ⟨rfl, _, sq_of p3'⟩, _, rfl, g, dx, _, rfl, e3 _ _ q1, g, dx, u2, _, rfl, e3 _ _ q1, fun H4 e4 => ?_⟩
            refine ev_cat (ev_cat (ev_var rfl) (ev_var rfl) (by omega)) ev_c ?_ H4 (Ex.refl _) _ fun H5 e5 => ?_
            · rw [Str.length_append]
              show _ + _ + 1 ≤ _
              omega
            have e35 := (e3.trans e4).trans e5
            obtain ⟨ys, w1, w2, w3⟩ := kidsV_ex q2 e35
            refine ⟨u2, ys, l, subN, sh, _, rfl, w1, w2, h3.2, subN_in, by omega, ?_, fun p H6 hp e6 h6 => ?_⟩
            · rw [Str.length_append, Str.length_append]
              show _ + _ + 1 + _ ≤ _
              omega
            have p6 := e6 _ _ (e35 _ _ p3)
            have hlen : (acc.map V.str).length + ((leavesS (leavesK n) l (above ++ nm ++ "/")).map V.str).length ≤ 100000 := by
              rw [List.length_map, List.length_map]
              have : (leavesT (leavesK (n + 1)) above ⟨nm, sh, .kids l r⟩) = leavesS (leavesK n) l (above ++ nm ++ "/") := rfl
              rw [this, List.length_append] at hc2
              omega
            refine ⟨f, p, acc.map V.str, _, rfl, rfl, p6, h6, sz_of hlen, Ex.mut ((p1.trans e35).trans e6) hf, ⟨_, _, _, rfl⟩, ?_⟩
            rw [upd_same, List.map_append]
            rfl
      · cases wt with
        | kids l r => exact nomatch hb
        | rule r =>
          refine s_app (e3 _ _ p3) (ev_var rfl) (ev_cat (ev_var rfl) (ev_var rfl) (by omega)) (by rw [List.length_map]; omega) fun H4 e4 => ⟨Ex.mut ((p1.trans e3).trans e4) hf, ⟨_, _, _, rfl⟩, ?_⟩
          rw [upd_same, List.map_append]
          rfl
    · rintro σ' H' ⟨p1, ⟨a1, a2, a3, rfl⟩, p3⟩
      rw [show ts.take xs.length = ts by rw [hxl, List.take_length]] at p3
      exact ⟨_, rfl, k' f H' hf p1 p3⟩
end
section
variable {P : Program} {w : World} {K : PySem.W.Frag} {mg : Str → Option Value} {base : Heap}
theorem ok_check_fit0 (T : Ctx K mg) : C8.Cal P w K mg base 1 "check_fit" (sp_check_fit K 0) [] := by
  refine cal_of T.f_check_fit (T.glo _ (by decide)) (N := n_check_fit) sc_check_fit (fun _ _ _ _ _ _ us hl => match us, hl with | [_, _], _ => rfl) (fun vs H Q E h => (show False from h).elim) (fun cdv A outer s H vs Q E hr h => (show False from h).elim)
theorem ok_check_fit3 (T : Ctx K mg) : C8.Cal P w K mg base 15 "check_fit" (sp_check_fit K 3) [] :=
  cal_mono (ok_check_fit (ok_check_fit (ok_check_fit (ok_check_fit0 T) T) T) T) (by decide)
theorem ok_leaves_of0 (T : Ctx K mg) : C8.Cal P w K mg base 1 "leaves_of" (sp_leaves_of K 0) [] := by
  refine cal_of T.f_leaves_of (T.glo _ (by decide)) (N := n_leaves_of) sc_leaves_of (fun _ _ _ _ _ _ us hl => match us, hl with | [_, _], _ => rfl) (fun vs H Q E h => (show False from h).elim) (fun cdv A outer s H vs Q E hr h => (show False from h).elim)
theorem ok_leaves_of3 (T : Ctx K mg) : C8.Cal P w K mg base 15 "leaves_of" (sp_leaves_of K 3) [] :=
  cal_mono (ok_leaves_of (ok_leaves_of (ok_leaves_of (ok_leaves_of0 T) T) T) T) (by decide)
end
/-- a setup -/
def setF (K : PySem.W.Frag) (frames : Int) (u szs : Addr) (r : Nat) (tk : Addr) (late : Bool) : List (Str × V) := [("own_frames", .int frames), ("own_tenants", .ref u), ("own_sizes", .ref szs), ("own_lending", .ref (fR K r)), ("own_ticks", .ref tk), ("own_late", .bl late)]
structure SetupV (K : PySem.W.Frag) (H : Hp) (s dx u szs : Addr) (frames : Int) (z : Szs) (xs : List V) (ts : List (TnS (Kid 2))) : Prop where
  ins : ∃ r tk late, H s = some (.ins (He.ga K "Setup") dx (setF K frames u szs r tk late))
  szs : H szs = some (.dK (szK z))
  tup : H u = some (.tup xs)
  ten : TenL K (kidsV K 2) H xs ts
theorem SetupV.ex {K : PySem.W.Frag} {H H' : Hp} {s dx u szs : Addr} {frames : Int} {z : Szs} {xs : List V} {ts : List (TnS (Kid 2))} (h : SetupV K H s dx u szs frames z xs ts) (e : Ex H H') : SetupV K H' s dx u szs frames z xs ts :=
  ⟨let ⟨a, b, c, d⟩ := h.ins; ⟨a, b, c, e _ _ d⟩, e _ _ h.szs, e _ _ h.tup, h.ten.ex (fun u l q => kidsV_ex q e) e⟩

section
variable {P : Program} {w : World} {K : PySem.W.Frag} {mg : Str → Option Value} {base : Heap}
abbrev n_Setup_frames : List Str := ["self"]
theorem sc_Setup_frames : FnScope n_Setup_frames ["self"] (defScope s_Setup_frames) := C8.fnScope_by (by decide +kernel)
def sp_Setup_frames (K : PySem.W.Frag) : Sp := fun vs H Q _ => ∃ (s dx u szs : Addr) (frames : Int) (z : Szs) (xs : List V) (ts : List (TnS (Kid 2))), vs = [.ref s] ∧ SetupV K H s dx u szs frames z xs ts ∧ RetV (.int frames) H Q
theorem ok_Setup_frames  (T : Ctx K mg) : Prp P w K mg base 1 (He.ga K "Setup") "frames" (sp_Setup_frames K) := by
  refine prp_of T.f_Setup_frames (T.cls _ (by decide)) (T.prop ("Setup", "frames") (by decide)) (N := n_Setup_frames) sc_Setup_frames (fun _ _ _ _ _ _ us hl => match us, hl with | [_], _ => rfl) (fun vs H Q E h => ?len) (fun cdv A outer s H vs Q E hr h => ?body)
  case len =>
    obtain ⟨_, _, _, _, _, _, _, _, rfl, _⟩ := h
    rfl
  case body =>
    obtain ⟨s', dx, u, szs, frames, z, xs, ts, rfl, h, k⟩ := h
    refine ⟨_, (pss_one (ps_ret (pe_fldK (K := K) (pv 0)))), ?_⟩
    obtain ⟨r, tk, late, hi⟩ := h.ins
    exact s_ret (ev_fld (ev_var rfl) hi (T.cls "Setup" (by decide)) (T.noat ("Setup", "own_frames") (by decide)) rfl) k
end
section
variable {P : Program} {w : World} {K : PySem.W.Frag} {mg : Str → Option Value} {base : Heap}
abbrev n_Setup_sizes : List Str := ["self"]
theorem sc_Setup_sizes : FnScope n_Setup_sizes ["self"] (defScope s_Setup_sizes) := C8.fnScope_by (by decide +kernel)
def sp_Setup_sizes (K : PySem.W.Frag) : Sp := fun vs H Q _ => ∃ (s dx u szs : Addr) (frames : Int) (z : Szs) (xs : List V) (ts : List (TnS (Kid 2))), vs = [.ref s] ∧ SetupV K H s dx u szs frames z xs ts ∧ ∀ p H', H p = none → Ex H H' → H' p = some (.dK (szK z)) → Q (.ref p) H'
theorem ok_Setup_sizes  (T : Ctx K mg) : C8.Met P w K mg base 1 (He.ga K "Setup") "sizes" (sp_Setup_sizes K) [] := by
  refine met_of T.f_Setup_sizes (T.cls _ (by decide)) (T.met ("Setup", "sizes") (by decide)) (N := n_Setup_sizes) sc_Setup_sizes (fun _ _ _ _ _ _ us hl => match us, hl with | [_], _ => rfl) (fun vs H Q E h => ?len) (fun cdv A outer s H vs Q E hr h => ?body)
  case len =>
    obtain ⟨_, _, _, _, _, _, _, _, rfl, _⟩ := h
    rfl
  case body =>
    obtain ⟨s', dx, u, szs, frames, z, xs, ts, rfl, h, k⟩ := h
    refine ⟨_, (pss_one (ps_ret (pe_callTy call_dictD (by rfl) (T.free _ (by decide)) (by decide +kernel) (pa_cons (pe_fldK (K := K) (pv 0)) pa_nil)))), ?_⟩
    obtain ⟨r, tk, late, hi⟩ := h.ins
    exact ⟨_, rfl, s', _, dx, _, .ref szs, rfl, hi, T.cls "Setup" (by decide), T.noat ("Setup", "own_sizes") (by decide), rfl, szs, szK z, rfl, .inl h.szs, fun p hp => k p _ hp (Ex.new hp) upd_same⟩
end
section
variable {P : Program} {w : World} {K : PySem.W.Frag} {mg : Str → Option Value} {base : Heap}
abbrev n_Setup_size : List Str := ["self", "page"]
theorem sc_Setup_size : FnScope n_Setup_size ["self", "page"] (defScope s_Setup_size) := C8.fnScope_by (by decide +kernel)
def sp_Setup_size (K : PySem.W.Frag) : Sp := fun vs H Q _ => ∃ (s dx u szs : Addr) (frames : Int) (z : Szs) (xs : List V) (ts : List (TnS (Kid 2))) (p : Str), vs = [.ref s, .str p] ∧ SetupV K H s dx u szs frames z xs ts ∧ RetV (.int (szOf z p)) H Q
theorem ok_Setup_size  (T : Ctx K mg) : C8.Met P w K mg base 1 (He.ga K "Setup") "size" (sp_Setup_size K) [] := by
  refine met_of T.f_Setup_size (T.cls _ (by decide)) (T.met ("Setup", "size") (by decide)) (N := n_Setup_size) sc_Setup_size (fun _ _ _ _ _ _ us hl => match us, hl with | [_, _], _ => rfl) (fun vs H Q E h => ?len) (fun cdv A outer s H vs Q E hr h => ?body)
  case len =>
    obtain ⟨_, _, _, _, _, _, _, _, _, rfl, _⟩ := h
    rfl
  case body =>
    obtain ⟨s', dx, u, szs, frames, z, xs, ts, p, rfl, h, k⟩ := h
    refine ⟨_, (pss_one (ps_ret (pe_dget2 (hu_of hr) (pe_fldK (K := K) (pv 0)) (pv 1) pe_int ⟨by rfl, by rfl, by rfl, by rfl⟩))), ?_⟩
    obtain ⟨r, tk, late, hi⟩ := h.ins
    exact s_ret (ev_is (ev_dget2 (k := .inr p) (ev_fld (ev_var rfl) hi (T.cls "Setup" (by decide)) (T.noat ("Setup", "own_sizes") (by decide)) rfl) (ev_var rfl) ev_c h.szs) (szOf_val z p)) k
end
section
variable {P : Program} {w : World} {K : PySem.W.Frag} {mg : Str → Option Value} {base : Heap}
abbrev n_Setup_leaves : List Str := ["self"]
theorem sc_Setup_leaves : FnScope n_Setup_leaves ["self"] (defScope s_Setup_leaves) := C8.fnScope_by (by decide +kernel)
def sp_Setup_leaves (K : PySem.W.Frag) : Sp := fun vs H Q _ => ∃ (s dx u szs : Addr) (frames room : Int) (z : Szs) (xs : List V) (ts : List (TnS (Kid 2))), vs = [.ref s] ∧ SetupV K H s dx u szs frames z xs ts ∧ TreeS (TreeOk 2) topN room ts ∧ RetL ((leavesS (leavesK 2) ts "").map V.str) H Q
theorem ok_Setup_leaves  (T : Ctx K mg) : C8.Met P w K mg base 16 (He.ga K "Setup") "leaves" (sp_Setup_leaves K) [] := by
  refine met_of T.f_Setup_leaves (T.cls _ (by decide)) (T.met ("Setup", "leaves") (by decide)) (N := n_Setup_leaves) sc_Setup_leaves (fun _ _ _ _ _ _ us hl => match us, hl with | [_], _ => rfl) (fun vs H Q E h => ?len) (fun cdv A outer s H vs Q E hr h => ?body)
  case len =>
    obtain ⟨_, _, _, _, _, _, _, _, _, rfl, _⟩ := h
    rfl
  case body =>
    obtain ⟨s', dx, u, szs, frames, room, z, xs, ts, rfl, h, hO, k⟩ := h
    refine ⟨_, (pss_one (ps_ret (C8.pe_c (ok_leaves_of3 T) hr (by decide) (by rfl) (pa_cons (pe_fldK (K := K) (pv 0)) (pa_cons pe_str pa_nil))))), ?_⟩
    obtain ⟨r, tk, late, hi⟩ := h.ins
    refine s_retL (el_callL (ea_cons (ev_fld (ev_var rfl) hi (T.cls "Setup" (by decide)) (T.noat ("Setup", "own_tenants") (by decide)) rfl) (ea_cons ev_c ea_nil)) fun H1 e1 Q q => ?_) k
    exact ⟨u, xs, ts, topN, room, "", rfl, e1 _ _ h.tup, h.ten.ex (fun u l q => kidsV_ex q e1) e1, hO, topN_in, by decide, by decide, q⟩
end
section
variable {P : Program} {w : World} {K : PySem.W.Frag} {mg : Str → Option Value} {base : Heap}
abbrev n_check_setup : List Str := ["setup"]
theorem sc_check_setup : FnScope n_check_setup ["setup"] (defScope s_check_setup) := C8.fnScope_by (by decide +kernel)
def sp_check_setup (K : PySem.W.Frag) : Sp := fun vs H Q _ => ∃ (s dx : Addr) (fs : List (Str × V)), vs = [.ref s] ∧ H s = some (.ins (He.ga K "Setup") dx fs) ∧ RetV .non H Q
theorem ok_check_setup  (T : Ctx K mg) : C8.Cal P w K mg base 1 "check_setup" (sp_check_setup K) [] := by
  refine cal_of T.f_check_setup (T.glo _ (by decide)) (N := n_check_setup) sc_check_setup (fun _ _ _ _ _ _ us hl => match us, hl with | [_], _ => rfl) (fun vs H Q E h => ?len) (fun cdv A outer s H vs Q E hr h => ?body)
  case len =>
    obtain ⟨_, _, _, rfl, _⟩ := h
    rfl
  case body =>
    obtain ⟨s', dx, fs, rfl, h, k⟩ := h
    refine ⟨_, (pss_one (ps_if (pt_not (pt_val (pe_callB (call_isiF (K := K)) (by rfl) (T.free _ (by decide)) (by decide +kernel) (pa_cons (pv 0) (pa_cons (C8.pe_gc (v := .ref (He.ga K "Setup")) (by rfl) ⟨_, T.glo _ (by decide), rfl⟩) pa_nil))))) (pss_one ps_never) pss_nil)), ?_⟩
    have c := T.insC "Setup" (by decide)
    exact s_when (b := false) (et_not (a := true) (et_B (ev_isi (ev_var rfl) (.own _) (fun _ e => .x (.base (.ins (e _ _ h) c.cl c.ha c.hn c.htk c.hm))) c.me))) (fun h => nomatch h) fun _ H1 e1 => k H1 e1
end
section
variable {P : Program} {w : World} {K : PySem.W.Frag} {mg : Str → Option Value} {base : Heap}
abbrev n_check_trace : List Str := ["trace"]
theorem sc_check_trace : FnScope n_check_trace ["trace"] (defScope s_check_trace) := C8.fnScope_by (by decide +kernel)
def sp_check_trace (K : PySem.W.Frag) : Sp := fun vs H Q _ => ∃ (s dx : Addr) (fs : List (Str × V)), vs = [.ref s] ∧ H s = some (.ins (He.ga K "Trace") dx fs) ∧ RetV .non H Q
theorem ok_check_trace  (T : Ctx K mg) : C8.Cal P w K mg base 1 "check_trace" (sp_check_trace K) [] := by
  refine cal_of T.f_check_trace (T.glo _ (by decide)) (N := n_check_trace) sc_check_trace (fun _ _ _ _ _ _ us hl => match us, hl with | [_], _ => rfl) (fun vs H Q E h => ?len) (fun cdv A outer s H vs Q E hr h => ?body)
  case len =>
    obtain ⟨_, _, _, rfl, _⟩ := h
    rfl
  case body =>
    obtain ⟨s', dx, fs, rfl, h, k⟩ := h
    refine ⟨_, (pss_one (ps_if (pt_not (pt_val (pe_callB (call_isiF (K := K)) (by rfl) (T.free _ (by decide)) (by decide +kernel) (pa_cons (pv 0) (pa_cons (C8.pe_gc (v := .ref (He.ga K "Trace")) (by rfl) ⟨_, T.glo _ (by decide), rfl⟩) pa_nil))))) (pss_one ps_never) pss_nil)), ?_⟩
    have c := T.insC "Trace" (by decide)
    exact s_when (b := false) (et_not (a := true) (et_B (ev_isi (ev_var rfl) (.own _) (fun _ e => .x (.base (.ins (e _ _ h) c.cl c.ha c.hn c.htk c.hm))) c.me))) (fun h => nomatch h) fun _ H1 e1 => k H1 e1
end
end N32
set_option Elab.async false
set_option linter.all false
set_option maxRecDepth 100000
set_option maxHeartbeats 4000000

namespace N32
open PySem PySem.Spec PyProof.Rows L2 Evl
section
variable {P : Program} {w : World} {K : PySem.W.Frag} {mg : Str → Option Value} {base : Heap}
abbrev n_Setup_init : List Str := ["self", "frames", "tenants", "sizes", "lending", "load", "write", "late", "chosen"]
theorem sc_Setup_init : FnScope n_Setup_init ["self", "frames", "tenants", "sizes", "lending", "load", "write", "late"] (defScope s_Setup_init) := C8.fnScope_by (by decide +kernel)
def sp_Setup_init (K : PySem.W.Frag) : Sp := fun vs H Q _ => ∃ (s dx l d : Addr) (frames a b : Int) (c : Bool) (r : Nat) (z : Szs) (xs : List V) (ts : List (TnS (Kid 2))) (R : List HP), vs = [.ref s, .int frames, .ref l, .ref d, .ref (fR K r), .int a, .int b, .bl c] ∧ Sat H (pt s (.ins (He.ga K "Setup") dx []) :: pt l (.lst xs) :: pt d (.dK (szK z)) :: R) ∧
  TenL K (kidsV K 2) H xs ts ∧ TreeS (TreeOk 2) topN frames ts ∧ SzOk z ∧ 0 ≤ frames ∧ frames ≤ 1000 ∧ r < 6 ∧ 0 ≤ a ∧ a ≤ 1000 ∧ 0 ≤ b ∧ b ≤ 1000 ∧
  ∀ u szs tk H', Sat H' (pt s (.ins (He.ga K "Setup") dx (setF K frames u szs r tk c)) :: pt szs (.dK (szK z)) :: pt l (.lst xs) :: pt d (.dK (szK z)) :: R) → H' u = some (.tup xs) → Tu H H' → Q .non H'
theorem ok_Setup_init  (T : Ctx K mg) : MakK P w K mg base 16 "Setup" (He.ga K "Setup") 2 ["sizes", "lending", "load", "write", "late"] (sp_Setup_init K) (fun vs zs => vs ++ zs) := by
  refine makK_of (n := 2) (ks := ["sizes", "lending", "load", "write", "late"]) (ms := []) (fun vs mz zs => vs ++ zs) (N := n_Setup_init) T.f_Setup_init (T.mks "Setup" (by decide)) (T.glo _ (by decide)) sc_Setup_init (by decide) (by decide) (fun a b c => a.append c)
    (fun D doc pm an cdv ct us mv ws h1 h2 h3 => ?chain) (fun vs H Q E h => ?len) (fun cdv A outer s H vs Q E hr h => ?body)
  case chain =>
    match us, mv, ws, h1, h2, h3 with
    | [a, b, c], [], [f1, f2, f3, f4, f5], _, _, _ => exact rfl
  case len =>
    obtain ⟨_, _, _, _, _, _, _, _, _, _, _, _, _, rfl, _⟩ := h
    rfl
  case body =>
    obtain ⟨s', dx, l, d, frames, a, b, c, r, z, xs, ts, R, rfl, S, hT, hO, hz, hf0, hf1, h6, ha0, ha1, hb0, hb1, k⟩ := h
    refine ⟨_, (pss_cons (ps_expr (C8.pe_c (ok_check_number T) hr (by decide) (by rfl) (pa_cons (pv 1) (pa_cons pe_int (pa_cons (C8.pe_gc (v := .int 1000000000) (by rfl) (const_of T.mostNumber)) pa_nil))))) (pss_cons (ps_expr (C8.pe_c (ok_check_tenants T) hr (by decide) (by rfl) (pa_cons (pv 2) pa_nil))) (pss_cons (ps_if (pt_cmpR op_gt (C8.pe_c (ok_levels_of3 T) hr (by decide) (by rfl) (pa_cons (pv 2) pa_nil)) (C8.pe_gc (v := .int 3) (by rfl) (const_of T.mostLevels)) (by rfl)) (pss_one ps_never) pss_nil) (pss_cons (ps_expr (C8.pe_c (ok_check_fit3 T) hr (by decide) (by rfl) (pa_cons (pv 1) (pa_cons (pv 2) pa_nil)))) (pss_cons (ps_expr (C8.pe_c (ok_check_sizes T) hr (by decide) (by rfl) (pa_cons (pv 3) pa_nil))) (pss_cons (ps_set (i := 8) sc_Setup_init.nd rfl (Or.inl rfl) (C8.pe_c (ok_lending_of T) hr (by decide) (by rfl) (pa_cons (pv 4) pa_nil))) (pss_cons (ps_expr (C8.pe_c (ok_check_number T) hr (by decide) (by rfl) (pa_cons (pv 5) (pa_cons pe_int (pa_cons (C8.pe_gc (v := .int 1000) (by rfl) (const_of T.mostTicks)) pa_nil))))) (pss_cons (ps_expr (C8.pe_c (ok_check_number T) hr (by decide) (by rfl) (pa_cons (pv 6) (pa_cons pe_int (pa_cons (C8.pe_gc (v := .int 1000) (by rfl) (const_of T.mostTicks)) pa_nil))))) (pss_cons (ps_if (pt_not (pt_val (pe_callB (call_isiF (K := K)) (by rfl) (T.free _ (by decide)) (by decide +kernel) (pa_cons (pv 7) (pa_cons (pe_bltn (v := .ty "bool") (by rfl) (T.free _ (by decide)) (by decide +kernel) rfl) pa_nil))))) (pss_one ps_never) pss_nil) (pss_cons (ps_fldK (K := K) (pv 0) (pv 1)) (pss_cons (ps_fldK (K := K) (pv 0) (pe_callTy (call_tuple_ofK (K := K)) (by rfl) (T.free _ (by decide)) (by decide +kernel) (pa_cons (pv 2) pa_nil))) (pss_cons (ps_fldK (K := K) (pv 0) (pe_ifExp (pt_cmpR op_isN (pv 3) pe_non (by rfl)) pe_dnewK (pe_callTy call_dictD (by rfl) (T.free _ (by decide)) (by decide +kernel) (pa_cons (pv 3) pa_nil)))) (pss_cons (ps_fldK (K := K) (pv 0) (pv 8)) (pss_cons (ps_fldK (K := K) (pv 0) (pe_tup (pa_cons (pv 5) (pa_cons (pv 6) pa_nil)))) (pss_one (ps_fldK (K := K) (pv 0) (pv 7))))))))))))))))), ?_⟩
    have cl := T.cls "Setup" (by decide)
    have hl := S.get 1 rfl
    have hd := S.get 2 rfl
    have hnm := hO.names (by decide) topN_in
    have num : ∀ (σ : L2.St) (H : Hp) (ta tb tc : TE) (n a b : Int), Ev ta σ H (.int n) → Ev tb σ H (.int a) → Ev tc σ H (.int b) → a ≤ n → n ≤ b → Ev (tCall sp_check_number [] C8.E0 (tCons ta (tCons tb (tCons tc tNil)))) σ H .non := fun σ H ta tb tc n a b h1 h2 h3 h4 h5 =>
      ev_callV (ea_cons h1 (ea_cons h2 (ea_cons h3 ea_nil))) fun H1 _ Q q => ⟨n, a, b, rfl, h4, h5, q⟩
    have tex : ∀ {H1 : Hp}, Ex H H1 → TenL K (kidsV K 2) H1 xs ts := fun e => hT.ex (fun u l q => kidsV_ex q e) e
    refine q_drop (num _ _ _ _ _ _ _ _ (ev_var rfl) ev_c ev_c hf0 (by omega)) fun H1 e1 => ?_
    refine q_drop (ev_callV (ea_cons (ev_var rfl) ea_nil) fun H2 e2 Q q => ⟨2, l, xs, ts, rfl, e2 _ _ (e1 _ _ hl), tex (e1.trans e2), hO.len, hnm.1, fun t ht => ⟨hnm.2 t ht, (hO.ten t ht).1, by have := (hO.ten t ht).2.1; omega⟩, q⟩) fun H2 e2 => ?_
    have e02 := e1.trans e2
    refine q_when (b := false) (et_is (et_test (ev_op (ev_callV (ea_cons (ev_var rfl) ea_nil) fun H3 e3 Q q => ⟨l, xs, ts, rfl, .inr (e3 _ _ (e02 _ _ hl)), tex (e02.trans e3), hO.len, q⟩) ev_c rv_I0)) (decide_eq_false (Int.not_lt.mpr (lvl_le 3 ts)))) (fun h => nomatch h) fun _ H3 e3 => ?_
    have e03 := e02.trans e3
    refine q_drop (ev_callV (ea_cons (ev_var rfl) (ea_cons (ev_var rfl) ea_nil)) fun H4 e4 Q q => ⟨l, xs, ts, topN, frames, rfl, .inr (e4 _ _ (e03 _ _ hl)), tex (e03.trans e4), hO, q⟩) fun H4 e4 => ?_
    refine q_drop (ev_callV (ea_cons (ev_var rfl) ea_nil) fun H5 e5 Q q => ⟨d, z, rfl, e5 _ _ (e4 _ _ (e03 _ _ hd)), hz, q⟩) fun H5 e5 => ?_
    refine q_asg (ev_callV (ea_cons (ev_var rfl) ea_nil) fun H6 _ Q q => ⟨r, rfl, h6, q⟩) fun H6 e6 => ?_
    refine q_drop (num _ _ _ _ _ _ _ _ (ev_var rfl) ev_c ev_c ha0 ha1) fun H7 e7 => ?_
    refine q_drop (num _ _ _ _ _ _ _ _ (ev_var rfl) ev_c ev_c hb0 hb1) fun H8 e8 => ?_
    refine q_when (b := false) (et_not (a := true) (et_B (ev_isi (ev_var rfl) (.ty "bool") (fun _ _ => ty_bl) (kit_ty (by decide +kernel))))) (fun h => nomatch h) fun _ H9 e9 => ?_
    have e09 := (((((e03.trans e4).trans e5).trans e6).trans e7).trans e8).trans e9
    have S9 := S.same e09
    refine q_fldS (ev_var rfl) (ev_var rfl) S9 cl (T.noat ("Setup", "own_frames") (by decide)) lt1000 fun H10 S10 t10 => ?_
    refine q_fldU (xs := xs) (ew_tupleV (ev_var rfl) (S10.get 1 rfl)) (ev_var rfl) S10 cl (T.noat ("Setup", "own_tenants") (by decide)) lt1000 fun u H11 S11 t11 hu => ?_
    refine q_fldNew (eo_dict (ev_var rfl) (S11.get 2 rfl)) (ev_var rfl) S11 cl (T.noat ("Setup", "own_sizes") (by decide)) lt1000 (fun z => z) fun szs H12 S12 t12 => ?_
    refine q_fldS (y := .ref (fR K r)) (ev_var rfl) (ev_var rfl) S12 cl (T.noat ("Setup", "own_lending") (by decide)) lt1000 fun H13 S13 t13 => ?_
    refine q_fldU (xs := [.int a, .int b]) (ew_new (eu_tup (ea_cons (ev_var rfl) (ea_cons (ev_var rfl) ea_nil)) (by show 2 ≤ 100000; decide))) (ev_var rfl) S13 cl (T.noat ("Setup", "own_ticks") (by decide)) lt1000 fun tk H14 S14 t14 htk => ?_
    refine s_fldS (y := .bl c) (ev_var rfl) (ev_var rfl) S14 cl (T.noat ("Setup", "own_late") (by decide)) lt1000 fun H15 S15 t15 => ?_
    exact k u szs tk H15 S15 ((((t12.trans t13).trans t14).trans t15) _ _ hu) ((((((Ex.tu e09).trans t10).trans t11).trans t12).trans t13).trans (t14.trans t15))
end
/-- the tenant that a path names -/
def FindW {α : Type} (f : List α → List Str → Str × Int × Nat → Prop) (t : TnS α) (rest : List Str) (leaf : Str × Int × Nat) : What α → Prop
  | .rule r => rest = [] ∧ leaf = (t.name, t.share, r)
  | .kids l _ => f l rest leaf
def FindS {α : Type} (f : List α → List Str → Str × Int × Nat → Prop) (ts : List (TnS α)) : List Str → Str × Int × Nat → Prop
  | [], _ => False
  | nm :: rest, leaf => ∃ i t, (List.range ts.length).find? (fun j => decide ((ts.getD j tnD).name = nm)) = some i ∧ ts[i]? = some t ∧ FindW f t rest leaf t.what
def FindT : (n : Nat) → List (Kid n) → List Str → Str × Int × Nat → Prop
  | 0 => fun _ _ _ => False
  | n + 1 => fun ts names leaf => FindS (FindT n) ts names leaf
theorem given_head {n : Nat} {f : Nat → Bool} {v : Nat → V} {i : Nat} (h : (List.range n).find? f = some i) : ∃ l, given n f v = v i :: l := by
  have h1 : ((List.range n).filter f).head? = some i := by rw [List.head?_filter]; exact h
  unfold given
  cases e : (List.range n).filter f with
  | nil => rw [e] at h1; cases h1
  | cons a l =>
    rw [e] at h1
    cases h1
    exact ⟨l.map v, rfl⟩
section
variable {K : PySem.W.Frag} {σ : L2.St} {H : Hp} {D : Ends} {tz : TS} {ta tb te : TE} {tt : TT}
theorem q_parV2 {i j : Nat} {x y : V} (ha : Ev ta σ H x) (hb : Ev tb σ H y) (k : ∀ H1, Ex H H1 → tz D ((σ.set i (some x)).set j (some y)) H1) : tSeq (tPar i j (tCons ta (tCons tb tNil))) tz D σ H :=
  ha H (Ex.refl _) _ fun H1 e1 => hb H1 e1 _ fun H2 e2 => ⟨_, _, rfl, k H2 (e1.trans e2)⟩
theorem q_end {i : Nat} (h : te σ H fun v H1 => D.nx (σ.set i (some v)) H1) : tAsg te (gName i) D σ H := h
theorem eu_ifNil (h : EvT tt σ H false) : EvU (tIf tt ta (tTup tNil)) σ H [] := fun H1 e Q q => h H1 e _ fun H2 e2 => ⟨Nat.zero_le _, fun p hp => q p _ (fresh_back e2 hp) (e2.trans (Ex.new hp)) upd_same⟩
end

section
variable {P : Program} {w : World} {K : PySem.W.Frag} {mg : Str → Option Value} {base : Heap}
abbrev n_Setup_found : List Str := ["self", "path", "tenants", "tenant", "name", "rows", "one"]
theorem sc_Setup_found : FnScope n_Setup_found ["self", "path"] (defScope s_Setup_found) := C8.fnScope_by (by decide +kernel)
def sp_Setup_found (K : PySem.W.Frag) : Sp := fun vs H Q _ => ∃ (s dx u szs : Addr) (frames : Int) (z : Szs) (xs : List V) (ts : List (TnS (Kid 2))) (path : Str) (leaf : Str × Int × Nat), vs = [.ref s, .str path] ∧ SetupV K H s dx u szs frames z xs ts ∧ ts.length ≤ 8 ∧ path.length ≤ 100 ∧ (Txt.split path "/").length ≤ 10 ∧ FindS (FindT 2) ts (Txt.split path "/") leaf ∧
  ∀ a H', Ex H H' → H' a = some (.tup [.str leaf.1, .int leaf.2.1, .ref (fR K leaf.2.2)]) → Q (.ref a) H'
theorem ok_Setup_found  (T : Ctx K mg) : C8.Met P w K mg base 3 (He.ga K "Setup") "found" (sp_Setup_found K) [] := by
  refine met_of T.f_Setup_found (T.cls _ (by decide)) (T.met ("Setup", "found") (by decide)) (N := n_Setup_found) sc_Setup_found (fun _ _ _ _ _ _ us hl => match us, hl with | [_, _], _ => rfl) (fun vs H Q E h => ?len) (fun cdv A outer s H vs Q E hr h => ?body)
  case len =>
    obtain ⟨_, _, _, _, _, _, _, _, _, _, rfl, _⟩ := h
    rfl
  case body =>
    obtain ⟨s', dx, u, szs, frames, z, xs, ts, path, leaf, rfl, h, h8, hpl, hsl, hF, k⟩ := h
    refine ⟨_, (pss_cons (ps_par (i := 2) (j := 3) (by rfl) sc_Setup_found.nd rfl rfl (by decide) rfl rfl (pa_cons (pe_fldK (K := K) (pv 0)) (pa_cons pe_non pa_nil)) (by rfl)) (pss_cons (ps_for PassesOwn.never (by rfl) (pi_listK (K := K) (pe_ifExp (pt_val (pe_callB (call_isiF (K := K)) (by rfl) (T.free _ (by decide)) (by decide +kernel) (pa_cons (pv 1) (pa_cons (pe_bltn (v := .ty "str") (by rfl) (T.free _ (by decide)) (by decide +kernel) rfl) pa_nil)))) (pe_split (pv 1) pe_str) (pe_lst (pa_cons pe_non pa_nil)))) (pg_name (i := 4) sc_Setup_found.nd rfl (Or.inr rfl)) (pss_cons (ps_setLc (i := 5) (own := [("one", 6)]) (by rfl) sc_Setup_found.nd rfl rfl (sw_true rfl rfl rfl (by decide +kernel)) (pi_tupK (K := K) (pv 2)) (blkOk_by (own := [("one", 6)]) (N := n_Setup_found) (sc := defScope s_Setup_found) (by decide +kernel)) (fun _ _ _ _ _ => pg_name (i := 6) sc_Setup_found.nd rfl (Or.inl rfl)) (fun _ _ _ _ _ => by exact (pts_one (pt_cmpR op_eq (pe_ix (ix_tupK (K := K)) (pv 6) pe_int (fun _ _ => rfl)) (pv 4) (by rfl)))) (fun _ _ _ _ _ => by exact (pv 6))) (pss_cons (ps_if (pt_cmpR (op_eqNilK (K := K) hr.units0) (pv 5) (pe_lst pa_nil) (by rfl)) (pss_one ps_never) pss_nil) (pss_cons (ps_set (i := 3) sc_Setup_found.nd rfl (Or.inl rfl) (pe_ix (ix_listK (K := K)) (pv 5) pe_int (fun _ _ => rfl))) (pss_one (ps_set (i := 2) sc_Setup_found.nd rfl (Or.inl rfl) (pe_ifExp (pt_val (pe_callB (call_isiF (K := K)) (by rfl) (T.free _ (by decide)) (by decide +kernel) (pa_cons (pe_ix (ix_tupK (K := K)) (pv 3) pe_int (fun _ _ => rfl)) (pa_cons (C8.pe_gc (v := .ref (He.ga K "Group")) (by rfl) ⟨_, T.glo _ (by decide), rfl⟩) pa_nil)))) (pe_pr (ok_Group_tenants T) hr (by decide) (pe_ix (ix_tupK (K := K)) (pv 3) pe_int (fun _ _ => rfl))) (pe_tup pa_nil)))))))) (pss_one (ps_ret (pv 3))))), ?_⟩
    obtain ⟨r, tk, late, hi⟩ := h.ins
    have hspl : ∀ σ : L2.St, σ[1]? = some (some (.str path)) → EvL (tM1 (fun x xs H Q => ∃ a b, x = .str a ∧ xs = [.str b] ∧ (b.length == 0) = false ∧ a.length + 2 ≤ sizeLine ∧ rNewStrs (Txt.split a b) H Q) (tVar 1) (tC (.str "/"))) σ H ((Txt.split path "/").map V.str) := fun σ hσ H1 e Q q =>
      ⟨_, hσ, ⟨_, rfl⟩, path, "/", rfl, rfl, by decide +kernel, sz_of (by omega), fun p hp => q p _ hp (Ex.new hp) upd_same⟩
    generalize Txt.split path "/" = ns at hsl hF hspl
    refine q_parV2 (x := .ref u) (y := .non) (ev_fld (ev_var rfl) hi (T.cls "Setup" (by decide)) (T.noat ("Setup", "own_tenants") (by decide)) rfl) ev_c fun H1 e1 => ?_
    have tex : ∀ {n : Nat} {H1 H2 : Hp} {xs : List V} {ts : List (TnS (Kid n))}, TenL K (kidsV K n) H1 xs ts → Ex H1 H2 → TenL K (kidsV K n) H2 xs ts := fun h e => h.ex (fun u l q => kidsV_ex q e) e
    refine q_forNLn (xs := ns.map V.str) (fun H2 e2 Q q => (el_if (b := true) (et_B (ev_isi (ev_var rfl) (.ty "str") (fun _ _ => ty_str) (kit_ty (by decide +kernel)))) (fun _ => hspl _ rfl) fun h => nomatch h) H2 (e1.trans e2) Q q)
      (fun p i σ' H' => Ex H H' ∧ H' p = some (.lst (ns.map V.str)) ∧ ∃ (w2 w3 : V) (a1 a2 a3 : Option V), σ' = [some (.ref s'), some (.str path), some w2, some w3, a1, a2, a3] ∧
        ((∃ n u xs ts, w2 = .ref u ∧ H' u = some (.tup xs) ∧ TenL K (kidsV K n) H' xs ts ∧ ts.length ≤ 8 ∧ FindS (FindT n) ts (ns.drop i) leaf) ∨ (ns.drop i = [] ∧ ∃ a, w3 = .ref a ∧ H' a = some (.tup [.str leaf.1, .int leaf.2.1, .ref (fR K leaf.2.2)]))))
      (fun p H2 hp e2 h2 => ⟨e1.trans e2, h2, _, _, _, _, _, rfl, .inl ⟨2, u, xs, ts, rfl, (e1.trans e2) _ _ h.tup, tex h.ten (e1.trans e2), h8, hF⟩⟩) (fun p i σ' H' _ q => sq_of q.2.1) ?_ ?_
    · rintro p i nv σ' H' hnv ⟨p1, p2, w2, w3, a1, a2, a3, rfl, hcase⟩
      rw [List.getElem?_map] at hnv
      obtain ⟨nm, hnm, rfl⟩ := Option.map_eq_some_iff.mp hnv
      have hdr : ns.drop i = nm :: ns.drop (i + 1) := by
        obtain ⟨h1, h2⟩ := List.getElem?_eq_some_iff.mp hnm
        rw [List.drop_eq_getElem_cons h1, h2]
      rcases hcase with ⟨n, u2, ys, ks, rfl, hu2, hT2, hk8, hF2⟩ | ⟨hnil, _⟩
      · rw [hdr] at hF2
        obtain ⟨j, t, hfind, htj, hW⟩ := hF2
        have hyl := hT2.len
        refine q_asgL (xs := given ys.length (fun j => decide ((ks.getD j tnD).name = nm)) fun j => ys.getD j .non) (el_lcW _ _ (wi_tup (ev_var rfl) (st_of hu2)) walk_tup (by omega) (fun H2 e2 => st_of (e2 _ _ hu2)) fun j2 H2 x H3 hj e2 y R hR => ?_) fun rw_ H2 hrw e2 h2 => ?_
        · obtain ⟨rfl, hx⟩ := y
          obtain ⟨t2, ht2, hv2⟩ := (tex hT2 e2).get hx
          have hg1 : ks.getD j2 tnD = t2 := by rw [List.getD, ht2]; rfl
          have hg2 : ys.getD j2 .non = x := by rw [List.getD, hx]; rfl
          rw [hg1, hg2] at hR
          obtain ⟨b, wv, rfl, hb, _⟩ := hv2
          exact hR _ _ (Ex.refl _) rfl (et_test (ev_op (ev_op (ev_var rfl) ev_c (rv_ixT (st_of hb) (v := .str t2.name) rfl)) (ev_var rfl) (rv_eq2 rfl (dstr _ _)))) fun _ => ev_var rfl
        · have hlt : j < ks.length := (List.getElem?_eq_some_iff.mp htj).1
          obtain ⟨rest, hgiven⟩ := given_head (n := ys.length) (f := fun j => decide ((ks.getD j tnD).name = nm)) (v := fun j => ys.getD j .non) (i := j) (by rw [hyl]; exact hfind)
          rw [hgiven] at h2
          have hyj : ys[j]? = some (ys.getD j .non) := by rw [List.getD, List.getElem?_eq_getElem (by omega)]; rfl
          generalize ys.getD j .non = yv at h2 hyj
          refine q_when (b := false) (et_test (fun H3 e3 Q q => ⟨_, rfl, Nat.zero_le _, fun b hb => ?_⟩)) (fun h => nomatch h) fun _ H3 e3 => ?_
          · exact ⟨rw_, b, _, rfl, rfl, sq_of (Ex.new hb _ _ (e3 _ _ h2)), sq_of upd_same, q _ (Ex.new hb)⟩
          refine q_asg (ev_op (ev_var rfl) ev_c (rv_ixL (sq_of (e3 _ _ h2)) (v := yv) (at_of (j := 0) rfl rfl))) fun H4 e4 => ?_
          have e04 := (e2.trans e3).trans e4
          obtain ⟨b, wv, rfl, hb, hw⟩ := (tex hT2 e04).at_ j _ t hyj htj
          have hw2 : Ev (tOp (rIxT K) (tVar 3) (tC (.int 2))) [some (.ref s'), some (.str path), some (.ref u2), some (.ref b), some (.str nm), some (.ref rw_), none] H4 wv := ev_op (ev_var rfl) ev_c (rv_ixT (st_of hb) rfl)
          obtain ⟨tn, sh, wt⟩ := t
          cases wt with
          | rule r =>
            obtain ⟨rfl, hr6⟩ := hw
            obtain ⟨hrest, rfl⟩ := hW
            refine q_end ((eu_ifNil (et_B (ev_isGroup T (kids := kidsV K n) (wt := .rule r) (ev_op (ev_var rfl) ev_c (rv_ixT (st_of hb) rfl)) ⟨rfl, hr6⟩))) H4 (Ex.refl _) _ fun u5 H5 _ e5 h5 => ?_)
            exact ⟨(p1.trans e04).trans e5, e5 _ _ (e04 _ _ p2), _, _, _, _, _, rfl, .inr ⟨hrest, b, rfl, e5 _ _ hb⟩⟩
          | kids l r =>
            obtain ⟨g, dx2, u3, rfl, q1, q2⟩ := hw
            cases n with
            | zero => exact False.elim q2
            | succ n =>
              have q2' : kidsV K (n + 1) H4 u3 l := q2
              obtain ⟨zs, z1, z2, z3⟩ := q2
              refine q_end ((et_B (ev_isGroup T (kids := kidsV K (n + 1)) (wt := .kids l r) (ev_op (ev_var rfl) ev_c (rv_ixT (st_of hb) rfl)) ⟨g, dx2, u3, rfl, q1, q2'⟩)) H4 (Ex.refl _) _ fun H5 e5 => ?_)
              refine (ev_op (ev_var rfl) ev_c (rv_ixT (st_of (e5 _ _ hb)) (v := .ref g) rfl)) H5 (Ex.refl _) _ fun H6 e6 => ⟨g, dx2, _, rfl, e6 _ _ (e5 _ _ q1), g, dx2, u3, _, rfl, e6 _ _ (e5 _ _ q1), fun H7 e7 => ?_⟩
              have e47 := (e5.trans e6).trans e7
              exact ⟨(p1.trans e04).trans e47, e47 _ _ (e04 _ _ p2), _, _, _, _, _, rfl, .inl ⟨n, u3, zs, l, rfl, e47 _ _ z1, tex z2 e47, z3, hW⟩⟩
      · rw [hdr] at hnil
        cases hnil
    · rintro p σ' H' ⟨p1, p2, w2, w3, a1, a2, a3, rfl, hcase⟩
      rw [List.length_map, List.drop_length] at hcase
      rcases hcase with ⟨n, u2, ys, ks, rfl, hu2, hT2, hk8, hF2⟩ | ⟨_, a, rfl, ha⟩
      · exact hF2.elim
      · exact ⟨_, rfl, k a H' p1 ha⟩
end
end N32
set_option Elab.async false
set_option linter.all false
set_option maxRecDepth 100000
set_option maxHeartbeats 4000000

namespace N32
open PySem PySem.Spec PyProof.Rows L2 Evl
/-! ### tenants, setups as cells -/
section
variable {K : PySem.W.Frag} {α : Type}
def whatP (K : PySem.W.Frag) (kidP : Addr → List α → HP) (w : V) : What α → HP
  | .rule r => pu (w = .ref (fR K r) ∧ r < 6)
  | .kids l r => ex fun q : Addr × Addr × Addr => al [pu (w = .ref q.1), pt q.1 (.ins (He.ga K "Group") q.2.1 [("own_tenants", .ref q.2.2), ("own_lending", .ref (fR K r))]), kidP q.2.2 l]
def tenP (K : PySem.W.Frag) (kidP : Addr → List α → HP) (v : V) (t : TnS α) : HP := ex fun q : Addr × V => al [pu (v = .ref q.1), tp q.1 [.str t.name, .int t.share, q.2], whatP K kidP q.2 t.what]
def seqP (K : PySem.W.Frag) (kidP : Addr → List α → HP) : List V → List (TnS α) → List HP
  | x :: xs, t :: ts => tenP K kidP x t :: seqP K kidP xs ts
  | [], [] => []
  | _, _ => [pu False]
def kidsP (K : PySem.W.Frag) : (n : Nat) → Addr → List (Kid n) → HP
  | 0 => fun _ _ => pu False
  | n + 1 => fun u ts => ex fun xs : List V => al (tp u xs :: pu (ts.length ≤ 8) :: seqP K (kidsP K n) xs ts)
theorem whatP_on {kidP : Addr → List α → HP} {kids : Hp → Addr → List α → Prop} {H : Hp} (hk : ∀ u l F, (kidP u l).on H F → kids H u l) {w : V} {wt : What α} {F : Fp} (h : (whatP K kidP w wt).on H F) : WhatV K kids H w wt := by
  cases wt with
  | rule r => exact h.1
  | kids l r =>
    obtain ⟨⟨g, dx, u⟩, F1, F2, h1, ⟨F3, F4, h3, ⟨F5, F6, h5, _⟩, _⟩, _⟩ := h
    exact ⟨g, dx, u, h1.1, h3.1, hk _ _ _ h5⟩
theorem tenP_on {kidP : Addr → List α → HP} {kids : Hp → Addr → List α → Prop} {H : Hp} (hk : ∀ u l F, (kidP u l).on H F → kids H u l) {v : V} {t : TnS α} {F : Fp} (h : (tenP K kidP v t).on H F) : TenV K kids H v t := by
  obtain ⟨⟨a, w⟩, F1, F2, h1, ⟨F3, F4, h3, ⟨F5, F6, h5, _⟩, _⟩, _⟩ := h
  exact ⟨a, w, h1.1, h3.1, whatP_on hk h5⟩
theorem seqP_on {kidP : Addr → List α → HP} {kids : Hp → Addr → List α → Prop} {H : Hp} (hk : ∀ u l F, (kidP u l).on H F → kids H u l) : ∀ {xs : List V} {ts : List (TnS α)} {F : Fp}, SatF H (seqP K kidP xs ts) F → TenL K kids H xs ts
  | [], [], _, _ => ⟨rfl, fun i x t h => by simp at h⟩
  | [], _ :: _, _, ⟨_, _, h, _⟩ => h.1.elim
  | _ :: _, [], _, ⟨_, _, h, _⟩ => h.1.elim
  | x :: xs, t :: ts, F, ⟨F1, F2, h1, h2, _⟩ => by
    have ih := seqP_on hk h2
    refine ⟨by rw [List.length_cons, List.length_cons, ih.len], fun i y u a b => ?_⟩
    cases i with
    | zero => cases a; cases b; exact tenP_on hk h1
    | succ i => exact ih.at_ i y u a b
theorem kidsP_on : ∀ {n : Nat} {H : Hp} {u : Addr} {l : List (Kid n)} {F : Fp}, (kidsP K n u l).on H F → kidsV K n H u l
  | 0, _, _, _, _, h => h.1
  | n + 1, H, u, l, F, ⟨xs, F1, F2, h1, ⟨F3, F4, h3, h4, _⟩, _⟩ => ⟨xs, h1.1, seqP_on (fun u l F h => kidsP_on h) h4, h3.1⟩
/-- the cells of a setup -/
structure SX where
  dx : Addr
  u : Addr
  szs : Addr
  r : Nat
  tk : Addr
  late : Bool
  xs : List V
def setCs (K : PySem.W.Frag) (s : Addr) (frames : Int) (z : Szs) (ts : List (TnS (Kid 2))) (x : SX) : List HP :=
  [pt s (.ins (He.ga K "Setup") x.dx (setF K frames x.u x.szs x.r x.tk x.late)), pt x.szs (.dK (szK z)), tp x.u x.xs, al (seqP K (kidsP K 2) x.xs ts)]
def SetupP (K : PySem.W.Frag) (s : Addr) (frames : Int) (z : Szs) (ts : List (TnS (Kid 2))) : HP := ex fun x => al (setCs K s frames z ts x)
theorem SetupP.open_ {s : Addr} {frames : Int} {z : Szs} {ts : List (TnS (Kid 2))} {H : Hp} {R : List HP} : Sat H (SetupP K s frames z ts :: R) ↔ ∃ x, Sat H (setCs K s frames z ts x ++ R) := by
  unfold SetupP
  rw [Sat.ex]
  exact exists_congr fun x => Sat.al
theorem Sat.setupC {s : Addr} {frames : Int} {z : Szs} {ts : List (TnS (Kid 2))} {x : SX} {H : Hp} {R : List HP} (h : Sat H (setCs K s frames z ts x ++ R)) : SetupV K H s x.dx x.u x.szs frames z x.xs ts := by
  refine ⟨⟨_, _, _, h.get 0 rfl⟩, h.get 1 rfl, h.getT 2 rfl, ?_⟩
  obtain ⟨G, F1, F2, h1, _⟩ := h.pull 3 rfl
  exact seqP_on (fun u l F h => kidsP_on h) h1
theorem Sat.setupV {s : Addr} {frames : Int} {z : Szs} {ts : List (TnS (Kid 2))} {H : Hp} {R : List HP} (h : Sat H (SetupP K s frames z ts :: R)) : ∃ dx u szs xs, SetupV K H s dx u szs frames z xs ts :=
  let ⟨x, h⟩ := SetupP.open_.mp h; ⟨_, _, _, _, h.setupC⟩
end

/-! ### machines by their paths -/
abbrev Ms := List (Str × M)
structure MY where
  path : Str
  a : Addr
  m : M
def mdK (mx : List MY) : List (Key × V) := mx.map fun y => (.inr y.path, .ref y.a)
def msOf (mx : List MY) : Ms := mx.map fun y => (y.path, y.m)
def machPs (K : PySem.W.Frag) (z : Szs) (mx : List MY) : List HP := mx.map fun y => MachP K y.a z y.m
def pgHeld (ms : Ms) (p : Str) : Prop := ∃ x ∈ ms, p ∈ x.2.pgs
def holdersF (ms : Ms) (p : Str) : List Str := (ms.filter fun x => decide (p ∈ x.2.pgs)).map (·.1)
def reqMs (z : Szs) (ms : Ms) (q : Req) : Ms := ms.map fun x => if x.1 = q.path then (x.1, reqF z x.2 q.at_ q.page) else x
theorem holders_nil {ms : Ms} {p : Str} : holdersF ms p = [] ↔ ¬ pgHeld ms p := by
  unfold holdersF pgHeld
  rw [List.map_eq_nil_iff, List.filter_eq_nil_iff]
  constructor
  · rintro h ⟨x, hx, hp⟩
    exact h x hx (decide_eq_true hp)
  · intro h x hx hp
    exact h ⟨x, hx, of_decide_eq_true hp⟩
section
variable {K : PySem.W.Frag} {H : Hp} {z : Szs} {mx : List MY} {R : List HP}
theorem Sat.machs : ∀ {mx : List MY} {R : List HP}, Sat H (machPs K z mx ++ R) → ∀ y ∈ mx, ∃ x, MachV K H y.a z y.m x
  | [], _, _, y, hy => nomatch hy
  | w :: mx, R, h, y, hy => by
    have h : Sat H (MachP K w.a z w.m :: (machPs K z mx ++ R)) := h
    rcases List.mem_cons.mp hy with rfl | hy
    · obtain ⟨x, h⟩ := MachP.open_.mp h
      exact ⟨x, h.machV⟩
    · exact Sat.machs h.tail y hy
def myD : MY := ⟨"", 0, ⟨0, 0, [], .none, 0, 0, 0⟩⟩
theorem mdK_get {i : Nat} {k : Key} {v : V} (h : (mdK mx)[i]? = some (k, v)) : ∃ y, mx[i]? = some y ∧ k = .inr y.path ∧ v = .ref y.a := by
  unfold mdK at h
  rw [List.getElem?_map] at h
  obtain ⟨y, hy, e⟩ := Option.map_eq_some_iff.mp h
  cases e
  exact ⟨y, hy, rfl, rfl⟩
theorem mdK_len : (mdK mx).length = mx.length := List.length_map _
theorem mdK_find {p : Str} : ∀ {mx : List MY}, p ∈ mx.map (·.path) → ∃ l1 y l2, mx = l1 ++ y :: l2 ∧ y.path = p ∧ (∀ w ∈ l1, w.path ≠ p) ∧ valV (mdK mx) (.inr p) = some (.ref y.a)
  | [], h => by simp at h
  | y :: mx, h => by
    by_cases e : y.path = p
    · exact ⟨[], y, mx, rfl, e, fun w hw => by simp at hw, valV_pos (p := (Sum.inr y.path, V.ref y.a)) (congrArg Sum.inr e)⟩
    · have h2 : p ∈ mx.map (·.path) := by
        rcases List.mem_cons.mp h with a | a
        · exact (e a.symm).elim
        · exact a
      obtain ⟨l1, w, l2, e1, e2, e3, e4⟩ := mdK_find h2
      refine ⟨y :: l1, w, l2, by rw [e1]; rfl, e2, fun v hv => ?_, ?_⟩
      · rcases List.mem_cons.mp hv with rfl | hv
        · exact e
        · exact e3 v hv
      · rw [← e4]
        exact valV_neg (fun z => e (Sum.inr.inj z))
theorem mdK_none {p : Str} (h : p ∉ mx.map (·.path)) : valV (mdK mx) (.inr p) = none := by
  induction mx with
  | nil => rfl
  | cons y mx ih =>
    rw [List.map_cons, List.mem_cons, not_or] at h
    show valV ((Sum.inr y.path, V.ref y.a) :: mdK mx) (.inr p) = none
    rw [valV_neg (fun z => h.1 (Sum.inr.inj z).symm)]
    exact ih h.2
/-- a machine is added -/
theorem ms_add {d a : Addr} {path : Str} {m : M} (S : Sat H (MachP K a z m :: pt d (.dK (mdK mx)) :: al (machPs K z mx) :: R)) (hp : path ∉ mx.map (·.path)) :
    Sat (upd H d (.dK (putK (mdK mx) (.inr path) (.ref a)))) (pt d (.dK (mdK (mx ++ [⟨path, a, m⟩]))) :: al (machPs K z (mx ++ [⟨path, a, m⟩])) :: R) := by
  rw [putK_new _ (mdK_none hp)]
  have e : mdK mx ++ [((.inr path : Key), V.ref a)] = mdK (mx ++ [⟨path, a, m⟩]) := by
    unfold mdK
    rw [List.map_append]
    rfl
  rw [e]
  have S1 := S.put (o' := .dK (mdK (mx ++ [⟨path, a, m⟩]))) 1 rfl
  have S2 : Sat (upd H d (.dK (mdK (mx ++ [⟨path, a, m⟩])))) (al (machPs K z mx) :: MachP K a z m :: pt d (.dK (mdK (mx ++ [⟨path, a, m⟩]))) :: R) := (S1.pull 2 rfl)
  have S3 := Sat.al.mp S2
  have S4 : Sat (upd H d (.dK (mdK (mx ++ [⟨path, a, m⟩])))) (machPs K z (mx ++ [⟨path, a, m⟩]) ++ pt d (.dK (mdK (mx ++ [⟨path, a, m⟩]))) :: R) := by
    have e2 : machPs K z (mx ++ [⟨path, a, m⟩]) = machPs K z mx ++ [MachP K a z m] := by
      unfold machPs
      rw [List.map_append]
      rfl
    rw [e2, List.append_assoc]
    exact S3
  exact (Sat.al.mpr S4).swap
theorem machPs_app (l1 l2 : List MY) : machPs K z (l1 ++ l2) = machPs K z l1 ++ machPs K z l2 := List.map_append ..
/-- one machine to the front, and back -/
theorem ms_focus {l1 l2 : List MY} {y : MY} : Sat H (al (machPs K z (l1 ++ y :: l2)) :: R) ↔ Sat H (MachP K y.a z y.m :: (machPs K z l1 ++ machPs K z l2 ++ R)) := by
  rw [Sat.al, machPs_app]
  show Sat H ((machPs K z l1 ++ MachP K y.a z y.m :: machPs K z l2) ++ R) ↔ _
  have p : ((machPs K z l1 ++ MachP K y.a z y.m :: machPs K z l2) ++ R).Perm (MachP K y.a z y.m :: (machPs K z l1 ++ machPs K z l2 ++ R)) := by
    rw [List.append_assoc, List.append_assoc]
    exact List.perm_middle
  exact ⟨fun h => h.perm p, fun h => h.perm p.symm⟩
theorem reqMs_mid {l1 l2 : List MY} {y : MY} {q : Req} (hp : y.path = q.path) (hn : ((l1 ++ y :: l2).map (·.path)).Nodup) : reqMs z (msOf (l1 ++ y :: l2)) q = msOf (l1 ++ ⟨y.path, y.a, reqF z y.m q.at_ q.page⟩ :: l2) := by
  have other : ∀ l : List MY, (∀ w ∈ l, w.path ≠ q.path) → reqMs z (msOf l) q = msOf l := by
    intro l hl
    unfold reqMs msOf
    rw [List.map_map]
    apply List.map_congr_left
    intro w hw
    exact if_neg (hl w hw)
  have sp : ∀ a b : List MY, reqMs z (msOf (a ++ b)) q = reqMs z (msOf a) q ++ reqMs z (msOf b) q := by
    intro a b
    unfold reqMs msOf
    rw [List.map_append, List.map_append]
  rw [List.map_append, List.map_cons, List.nodup_append, List.nodup_cons] at hn
  obtain ⟨h1, h2, h3⟩ := hn
  rw [sp, other l1, show y :: l2 = [y] ++ l2 from rfl, sp, other l2]
  · have e1 : reqMs z (msOf [y]) q = [(y.path, reqF z y.m q.at_ q.page)] := by
      unfold reqMs msOf
      rw [List.map_cons, List.map_cons, List.map_nil, List.map_nil, if_pos hp]
    rw [e1]
    unfold msOf
    rw [List.map_append, List.map_cons]
    rfl
  · intro w hw e
    exact h2.1 (by rw [hp, ← e]; exact List.mem_map_of_mem hw)
  · intro w hw e
    exact h3 w.path (List.mem_map_of_mem hw) y.path List.mem_cons_self (e.trans hp.symm)
end


end N32
set_option Elab.async false
set_option linter.all false
set_option maxRecDepth 100000
set_option maxHeartbeats 4000000

namespace N32
open PySem PySem.Spec PyProof.Rows L2 Evl
/-! ### tuples of texts compared -/
theorem txt_eqv : ∀ xs ys : List Str, PyData.eqvAll (xs.map .str) (ys.map .str) = decide (xs = ys)
  | [], [] => by simp [PyData.eqvAll]
  | [], y :: ys => by simp [PyData.eqvAll]
  | x :: xs, [] => by simp [PyData.eqvAll]
  | x :: xs, y :: ys => by
    have ih := txt_eqv xs ys
    simp only [List.map_cons, PyData.eqvAll, PyData.eqv, ih]
    by_cases h : x = y
    · subst h; simp
    · have : (x == y) = false := by simpa using h
      simp [this, h]
theorem txt_lay : ∀ xs : List Str, (∀ x ∈ xs, PyData.strOk x = true) → PyData.canLayAll0 (xs.map .str) = true
  | [], _ => by simp [PyData.canLayAll0]
  | x :: xs, h => by
    simp only [List.map_cons, PyData.canLayAll0, PyData.canLay0]
    rw [h x List.mem_cons_self, txt_lay xs fun y hy => h y (List.mem_cons_of_mem _ hy)]
    rfl
theorem txt_depth : ∀ xs : List Str, PyData.depthAll (xs.map .str) ≤ 1
  | [] => by simp [PyData.depthAll]
  | x :: xs => by
    have := txt_depth xs
    simp only [List.map_cons, PyData.depthAll, PyData.depth]
    omega
theorem txtT_shaped {xs : List Str} (h : ∀ x ∈ xs, PyData.strOk x = true) : SeqAt.shaped (.tuple (xs.map .str)) = true := by
  have h1 := txt_depth xs
  have h2 : PyData.depth (.tuple (xs.map .str)) ≤ 64 := by simp only [PyData.depth]; omega
  show (PyData.canLay0 (.tuple (xs.map .str)) && decide (PyData.depth (.tuple (xs.map .str)) ≤ 64)) = true
  rw [Bool.and_eq_true]
  exact ⟨by simp only [PyData.canLay0]; exact txt_lay xs h, decide_eq_true h2⟩
theorem txtL_shaped {xs : List Str} (h : ∀ x ∈ xs, PyData.strOk x = true) : SeqAt.shaped (.list (xs.map .str)) = true := by
  have h1 := txt_depth xs
  have h2 : PyData.depth (.list (xs.map .str)) ≤ 64 := by simp only [PyData.depth]; omega
  show (PyData.canLay0 (.list (xs.map .str)) && decide (PyData.depth (.list (xs.map .str)) ≤ 64)) = true
  rw [Bool.and_eq_true]
  exact ⟨by simp only [PyData.canLay0]; exact txt_lay xs h, decide_eq_true h2⟩
theorem txt_all {K : PySem.W.Frag} {H : Hp} : ∀ xs : List Str, DpAll K H (xs.map V.str) (xs.map .str)
  | [] => .nil
  | x :: xs => .cons (.str x) (txt_all xs)
theorem pathsL_ok : ∀ x ∈ pathsL, PyData.strOk x = true := by decide +kernel
section
variable {K : PySem.W.Frag} {σ : L2.St} {H : Hp} {ta tb te : TE}
theorem ev_eqTT {xs ys : List Str} (ha : EvW ta σ H (xs.map V.str)) (hb : EvW tb σ H (ys.map V.str)) (h1 : ∀ x ∈ xs, PyData.strOk x = true) (h2 : ∀ x ∈ ys, PyData.strOk x = true) : Ev (tOp (rEqD K) ta tb) σ H (.bl (decide (xs = ys))) := fun H1 e Q q =>
  ha H1 e _ fun u H2 e2 hu => hb H2 (e.trans e2) _ fun u2 H3 e3 hu2 => ⟨_, _, .tup (st_of (e3 _ _ hu)) (txt_all xs), .tup (st_of hu2) (txt_all ys), txtT_shaped h1, txtT_shaped h2, by
    show Q (.bl (PyData.eqv (.tuple _) (.tuple _))) H3
    rw [show PyData.eqv (.tuple (xs.map .str)) (.tuple (ys.map .str)) = decide (xs = ys) by simp only [PyData.eqv]; exact txt_eqv xs ys]
    exact q H3 (e2.trans e3)⟩
theorem ev_neTT {xs ys : List Str} (ha : EvW ta σ H (xs.map V.str)) (hb : EvW tb σ H (ys.map V.str)) (h1 : ∀ x ∈ xs, PyData.strOk x = true) (h2 : ∀ x ∈ ys, PyData.strOk x = true) : Ev (tOp (rNeD K) ta tb) σ H (.bl (!decide (xs = ys))) := fun H1 e Q q =>
  ha H1 e _ fun u H2 e2 hu => hb H2 (e.trans e2) _ fun u2 H3 e3 hu2 => ⟨_, _, .tup (st_of (e3 _ _ hu)) (txt_all xs), .tup (st_of hu2) (txt_all ys), txtT_shaped h1, txtT_shaped h2, by
    show Q (.bl (!PyData.eqv (.tuple _) (.tuple _))) H3
    rw [show PyData.eqv (.tuple (xs.map .str)) (.tuple (ys.map .str)) = decide (xs = ys) by simp only [PyData.eqv]; exact txt_eqv xs ys]
    exact q H3 (e2.trans e3)⟩
theorem ev_neLL {xs ys : List Str} (ha : EvL ta σ H (xs.map V.str)) (hb : EvL tb σ H (ys.map V.str)) (h1 : ∀ x ∈ xs, PyData.strOk x = true) (h2 : ∀ x ∈ ys, PyData.strOk x = true) : Ev (tOp (rNeD K) ta tb) σ H (.bl (!decide (xs = ys))) := fun H1 e Q q =>
  ha H1 e _ fun u H2 _ e2 hu => hb H2 (e.trans e2) _ fun u2 H3 _ e3 hu2 => ⟨_, _, .lst (sq_of (e3 _ _ hu)) (txt_all xs), .lst (sq_of hu2) (txt_all ys), txtL_shaped h1, txtL_shaped h2, by
    show Q (.bl (!PyData.eqv (.list _) (.list _))) H3
    rw [show PyData.eqv (.list (xs.map .str)) (.list (ys.map .str)) = decide (xs = ys) by simp only [PyData.eqv]; exact txt_eqv xs ys]
    exact q H3 (e2.trans e3)⟩
end

/-! ### the checker -/
structure CX where
  dx : Addr
  d : Addr
  th : Addr
  si : Addr
  fr : Addr
  mx : List MY
  since : List (List Key × V)
  free : List (Key × V)
def ckF (s : Addr) (n : Int) (x : CX) : List (Str × V) := [("own_setup", .ref s), ("own_machines", .ref x.d), ("own_there", .ref x.th), ("own_since", .ref x.si), ("own_free", .ref x.fr), ("own_number", .int n)]
/-- 0 itself, 1 the set, 2 since when, 3 the free pages, 4 its machines' dict, 5 the machines -/
def ckCs (K : PySem.W.Frag) (c s : Addr) (z : Szs) (there : List Str) (n : Int) (x : CX) : List HP :=
  [pt c (.ins (He.ga K "Checker") x.dx (ckF s n x)), pt x.th (.lst (there.map V.str)), pt x.si (.dT x.since), pt x.fr (.dK x.free), pt x.d (.dK (mdK x.mx)), al (machPs K z x.mx)]
structure CkOk (ms : Ms) (there : List Str) (n : Int) (x : CX) : Prop where
  eq : msOf x.mx = ms
  since : ∀ y ∈ x.mx, ∀ pg ∈ y.m.pgs, (valV x.since [.inr y.path, .inr pg]).isSome = true
  free : ∀ pg ∈ there, ¬ pgHeld ms pg → ∃ k : Int, valV x.free (.inr pg) = some (.int k) ∧ 1 ≤ k ∧ k ≤ n
  sl : (x.since.length : Int) ≤ n
  fl : (x.free.length : Int) ≤ 100 * n
def CkP (K : PySem.W.Frag) (c s : Addr) (z : Szs) (ms : Ms) (there : List Str) (n : Int) : HP := ex fun x => al (pu (CkOk ms there n x) :: ckCs K c s z there n x)
theorem CkP.open_ {K : PySem.W.Frag} {c s : Addr} {z : Szs} {ms : Ms} {there : List Str} {n : Int} {H : Hp} {R : List HP} : Sat H (CkP K c s z ms there n :: R) ↔ ∃ x, CkOk ms there n x ∧ Sat H (ckCs K c s z there n x ++ R) := by
  unfold CkP
  rw [Sat.ex]
  exact exists_congr fun x => Sat.al.trans Sat.pu
/-- what is read of the machines of a checker -/
theorem Sat.ckM {K : PySem.W.Frag} {c s : Addr} {z : Szs} {there : List Str} {n : Int} {x : CX} {H : Hp} {R : List HP} (h : Sat H (ckCs K c s z there n x ++ R)) : ∀ y ∈ x.mx, ∃ w, MachV K H y.a z y.m w := by
  have h1 := h.pull 5 rfl
  exact Sat.machs (Sat.al.mp h1)
theorem Sat.ckML {K : PySem.W.Frag} {c s : Addr} {z : Szs} {there : List Str} {n : Int} {x : CX} {H : Hp} {R : List HP} {od : Obj} (h : Sat H (ckCs K c s z there n x ++ R)) : ∀ y ∈ x.mx, ∃ w, MachV K (upd H x.d (.frz od (.dK (mdK x.mx)))) y.a z y.m w := by
  have h1 := (h.put (o' := .frz od (.dK (mdK x.mx))) 4 rfl).pull 5 rfl
  exact Sat.machs (Sat.al.mp h1)
section
variable {K : PySem.W.Frag} {σ : L2.St} {H : Hp} {ta tb te : TE}
def rInOwn (K : PySem.W.Frag) : R2 := fun x y H Q => ∃ a dx fs, y = .ref a ∧ H a = some (.ins (He.ga K "Alone") dx fs) ∧ sp_Alone_contains K [.ref a, x] H (fun v H' => ∃ b, v = .bl b ∧ Q (.bl b) H') C8.E0
theorem ev_inOwn {a : Addr} {z : Szs} {m : M} {p : Str} {w : MX} (ha : Ev ta σ H (.str p)) (hb : Ev tb σ H (.ref a)) (h : MachV K H a z m w) : Ev (tOp (rInOwn K) ta tb) σ H (.bl (decide (p ∈ m.pgs))) := fun H1 e Q q =>
  ha H1 e _ fun H2 e2 => hb H2 (e.trans e2) _ fun H3 e3 => by
    have e03 := (e.trans e2).trans e3
    exact ⟨a, w.dx, _, rfl, e03 _ _ h.ins, a, z, m, w, p, rfl, h.ex e03, fun H4 e4 => ⟨_, rfl, q H4 ((e2.trans e3).trans e4)⟩⟩
/-- a tuple is handed back -/
def RetW (xs : List V) (H : Hp) (Q : VK) : Prop := ∀ u H', Ex H H' → H' u = some (.tup xs) → Q (.ref u) H'
theorem ew_meth {C : Addr} {mn : Str} {sp : Sp} {a : Addr} {dx : Addr} {fs : List (Str × V)} {ts : TA} {vs xs : List V} (ha : Ev ta σ H (.ref a)) (ho : H a = some (.ins C dx fs)) (hl : fs.lookup mn = none) (ht : EvA ts σ H vs) (hs : ∀ H1, Ex H H1 → ∀ Q : VK, RetW xs H1 Q → sp (.ref a :: vs) H1 Q C8.E0) : EvW (tMeth C mn sp [] C8.E0 ta ts) σ H xs := fun H1 e Q q =>
  ha H1 e _ fun H2 e2 => ⟨a, dx, fs, rfl, e2 _ _ (e _ _ ho), hl, ht H2 (e.trans e2) _ fun H3 e3 => by
    rw [List.append_nil]
    exact hs H3 ((e.trans e2).trans e3) Q fun u H4 e4 h4 => q u H4 ((e2.trans e3).trans e4) h4⟩
theorem ev_meth {C : Addr} {mn : Str} {sp : Sp} {a : Addr} {dx : Addr} {fs : List (Str × V)} {ts : TA} {vs : List V} {v : V} (ha : Ev ta σ H (.ref a)) (ho : H a = some (.ins C dx fs)) (hl : fs.lookup mn = none) (ht : EvA ts σ H vs) (hs : ∀ H1, Ex H H1 → ∀ Q : VK, RetV v H1 Q → sp (.ref a :: vs) H1 Q C8.E0) : Ev (tMeth C mn sp [] C8.E0 ta ts) σ H v := fun H1 e Q q =>
  ha H1 e _ fun H2 e2 => ⟨a, dx, fs, rfl, e2 _ _ (e _ _ ho), hl, ht H2 (e.trans e2) _ fun H3 e3 => by
    rw [List.append_nil]
    exact hs H3 ((e.trans e2).trans e3) Q fun H4 e4 => q H4 ((e2.trans e3).trans e4)⟩
theorem el_meth {C : Addr} {mn : Str} {sp : Sp} {a : Addr} {dx : Addr} {fs : List (Str × V)} {ts : TA} {vs xs : List V} (ha : Ev ta σ H (.ref a)) (ho : H a = some (.ins C dx fs)) (hl : fs.lookup mn = none) (ht : EvA ts σ H vs) (hs : ∀ H1, Ex H H1 → ∀ Q : VK, RetL xs H1 Q → sp (.ref a :: vs) H1 Q C8.E0) : EvL (tMeth C mn sp [] C8.E0 ta ts) σ H xs := fun H1 e Q q =>
  ha H1 e _ fun H2 e2 => ⟨a, dx, fs, rfl, e2 _ _ (e _ _ ho), hl, ht H2 (e.trans e2) _ fun H3 e3 => by
    rw [List.append_nil]
    exact hs H3 ((e.trans e2).trans e3) Q fun u H4 hu e4 h4 => q u H4 (fresh_back (e2.trans e3) hu) ((e2.trans e3).trans e4) h4⟩
theorem s_retW {D : Ends} {xs : List V} (h : EvW te σ H xs) (k : ∀ u H1, Ex H H1 → H1 u = some (.tup xs) → D.rt (.ref u) H1) : tRet te D σ H := h H (Ex.refl H) _ k
end

section
variable {P : Program} {w : World} {K : PySem.W.Frag} {mg : Str → Option Value} {base : Heap}
abbrev n_Checker_holders : List Str := ["self", "page", "path", "machine"]
theorem sc_Checker_holders : FnScope n_Checker_holders ["self", "page"] (defScope s_Checker_holders) := C8.fnScope_by (by decide +kernel)
def sp_Checker_holders (K : PySem.W.Frag) : Sp := fun vs H Q _ => ∃ (c s : Addr) (z : Szs) (there : List Str) (n : Int) (x : CX) (R : List HP) (page : Str), vs = [.ref c, .str page] ∧ Sat H (ckCs K c s z there n x ++ R) ∧ x.mx.length ≤ 100 ∧ RetW ((holdersF (msOf x.mx) page).map V.str) H Q
theorem ok_Checker_holders  (T : Ctx K mg) : C8.Met P w K mg base 3 (He.ga K "Checker") "holders" (sp_Checker_holders K) [] := by
  refine met_of T.f_Checker_holders (T.cls _ (by decide)) (T.met ("Checker", "holders") (by decide)) (N := n_Checker_holders) sc_Checker_holders (fun _ _ _ _ _ _ us hl => match us, hl with | [_, _], _ => rfl) (fun vs H Q E h => ?len) (fun cdv A outer s H vs Q E hr h => ?body)
  case len =>
    obtain ⟨_, _, _, _, _, _, _, _, rfl, _⟩ := h
    rfl
  case body =>
    obtain ⟨c, s', z, there, n, x, R, page, rfl, S, hl, k⟩ := h
    refine ⟨_, (pss_one (ps_ret (pe_callTy (call_tuple_ofK (K := K)) (by rfl) (T.free _ (by decide)) (by decide +kernel) (pa_cons (pe_lock (pe_lc (own := [("path", 2), ("machine", 3)]) (by rfl) sc_Checker_holders.nd (pi_items (pe_fldK (K := K) (pv 0))) (blkOk_by (own := [("path", 2), ("machine", 3)]) (N := n_Checker_holders) (sc := defScope s_Checker_holders) (by decide +kernel)) (fun _ _ _ _ _ => pg_tupK (K := K) (n := 2) (by rfl) (pgs_cons (pg_name (i := 2) sc_Checker_holders.nd rfl (Or.inl rfl)) (pgs_cons (pg_name (i := 3) sc_Checker_holders.nd rfl (Or.inl rfl)) pgs_nil))) (fun _ _ _ _ _ => by exact (pts_one (pt_cmpR (op_in_own (ok_Alone_contains T) hr (by decide)) (pv 1) (pv 3) (by rfl)))) (fun _ _ _ _ _ => by exact (pv 2)))) pa_nil)))), ?_⟩
    have cl := T.cls "Checker" (by decide)
    have hd : H x.d = some (.dK (mdK x.mx)) := S.get 4 rfl
    refine s_retW (ew_tupleOf (el_lock hd trivial fun H1 od e1 => ?_)) k
    have S1 := S.same e1
    have hM := S1.ckML (od := od)
    have hc : (upd H1 x.d (.frz od (.dK (mdK x.mx)))) c = some (.ins (He.ga K "Checker") x.dx (ckF s' n x)) := (S1.put (o' := .frz od (.dK (mdK x.mx))) 4 rfl).get 0 rfl
    have hdd : (upd H1 x.d (.frz od (.dK (mdK x.mx)))) x.d = some (.frz od (.dK (mdK x.mx))) := upd_same
    generalize upd H1 x.d (.frz od (.dK (mdK x.mx))) = H2 at hM hc hdd
    have e : (holdersF (msOf x.mx) page).map V.str = given (mdK x.mx).length (fun i => decide (page ∈ (x.mx.getD i myD).m.pgs)) (fun i => .str (x.mx.getD i myD).path) := by
      unfold given holdersF msOf
      rw [mdK_len]
      have e := range_map_get x.mx myD (fun t => t)
      rw [List.map_id'] at e
      conv => lhs; rw [← e]
      rw [List.filter_map, List.filter_map, List.map_map, List.map_map, List.map_map]
      rfl
    rw [e]
    refine el_lcW _ _ (wi_items (ev_fld (ev_var rfl) hc cl (T.noat ("Checker", "own_machines") (by decide)) rfl) hdd) walk_items (by rw [mdK_len]; omega) (fun H3 e3 => e3 _ _ hdd) fun i H3 v H4 hi e3 y R2 hR => ?_
    obtain ⟨t, kx, vx, rfl, ht, rfl, h1', h2'⟩ := y
    dsimp only at h1' h2'
    obtain ⟨⟨kk, vv⟩, hkv, rfl⟩ := Option.map_eq_some_iff.mp h1'
    rw [hkv] at h2'
    cases h2'
    obtain ⟨y, hy, rfl, rfl⟩ := mdK_get hkv
    have hg : x.mx.getD i myD = y := by rw [List.getD, hy]; rfl
    rw [hg] at hR
    obtain ⟨w', hw⟩ := hM y (List.mem_of_getElem? hy)
    have eT : Ex H3 (upd H3 t (.tup [.str y.path, .ref y.a])) := Ex.new ht
    refine ⟨t, _, rfl, st_of upd_same, rfl, _, _, rfl, _, _, rfl, rfl, ?_⟩
    exact hR _ _ eT rfl (et_test (ev_inOwn (ev_var rfl) (ev_var rfl) (hw.ex (e3.trans eT)))) fun _ => ev_var rfl
end
structure MsOk (z : Szs) (ms : Ms) : Prop where
  nodup : (ms.map (·.1)).Nodup
  ok : ∀ x ∈ ms, MOk z x.2
  paths : ∀ x ∈ ms, x.1 ∈ pathsL
def heldAt (ms : Ms) (path page : Str) : Prop := ∃ x ∈ ms, x.1 = path ∧ page ∈ x.2.pgs
def InThere (ms : Ms) (there : List Str) : Prop := ∀ x ∈ ms, ∀ pg ∈ x.2.pgs, pg ∈ there
theorem MsOk.len {z : Szs} {ms : Ms} (h : MsOk z ms) : ms.length ≤ 21 := by
  have h1 := nodup_len (l' := pathsL) h.nodup fun p hp => by
    obtain ⟨x, hx, rfl⟩ := List.mem_map.mp hp
    exact h.paths x hx
  rw [List.length_map] at h1
  exact Nat.le_trans h1 (by decide +kernel)
theorem holders_ok {z : Szs} {ms : Ms} (h : MsOk z ms) (p : Str) : ∀ x ∈ holdersF ms p, PyData.strOk x = true := fun x hx => by
  obtain ⟨y, hy, rfl⟩ := List.mem_map.mp hx
  exact pathsL_ok _ (h.paths y (List.mem_filter.mp hy).1)
theorem inS (x : Str) (xs : List Str) : inV (.str x) (xs.map V.str) = decide (x ∈ xs) := by
  unfold inV
  rw [List.any_map, Bool.eq_iff_iff]
  have h : ∀ a b : Str, eqV (.str a) (.str b) = (a == b) := fun _ _ => rfl
  simp [h]
theorem flatS (xs : List Str) : (xs.map V.str).all flatV = true := by rw [List.all_map]; exact List.all_eq_true.mpr fun _ _ => rfl
/-- what a paper says -/
inductive PaperV (H : Hp) (v : V) (ms : Ms) (there : List Str) (n : Int) (path page : Str) : Prop where
  | alone {t : Addr} {w : V} (h : heldAt ms path page) (e : v = .ref t) (ht : H t = some (.tup [.str "alone", w]))
  | none (h : ¬ heldAt ms path page) (hn : page ∉ there) (e : v = .non)
  | others {t u : Addr} (h : ¬ heldAt ms path page) (hn : page ∈ there) (hh : holdersF ms page ≠ []) (e : v = .ref t) (ht : H t = some (.tup [.str "others", .ref u])) (hu : H u = some (.tup ((holdersF ms page).map V.str)))
  | extra {t : Addr} {k : Int} (h : ¬ heldAt ms path page) (hn : page ∈ there) (hh : holdersF ms page = []) (e : v = .ref t) (ht : H t = some (.tup [.str "extra", .int k])) (h1 : 1 ≤ k) (h2 : k ≤ n)
theorem PaperV.tu {H H' : Hp} {v : V} {ms : Ms} {there : List Str} {n : Int} {path page : Str} (h : PaperV H v ms there n path page) (e : Tu H H') : PaperV H' v ms there n path page := by
  cases h with
  | alone a b c => exact .alone a b (e _ _ c)
  | none a b c => exact .none a b c
  | others a b c d f g => exact .others a b c d (e _ _ f) (e _ _ g)
  | extra a b c d f g i => exact .extra a b c d (e _ _ f) g i
theorem msOf_paths (mx : List MY) : (msOf mx).map (·.1) = mx.map (·.path) := by
  unfold msOf
  rw [List.map_map]
  rfl
theorem heldAt_mx {mx l1 l2 : List MY} {y : MY} (e : mx = l1 ++ y :: l2) (hn : (mx.map (·.path)).Nodup) (page : Str) : heldAt (msOf mx) y.path page ↔ page ∈ y.m.pgs := by
  constructor
  · rintro ⟨x, hx, h1, h2⟩
    obtain ⟨w, hw, rfl⟩ := List.mem_map.mp hx
    have : w = y := by
      obtain ⟨i, hi⟩ := List.mem_iff_getElem?.mp hw
      have hy : y ∈ mx := by rw [e]; simp
      obtain ⟨j, hj⟩ := List.mem_iff_getElem?.mp hy
      have a : (mx.map (·.path))[i]? = some y.path := by rw [List.getElem?_map, hi]; exact congrArg some h1
      have b : (mx.map (·.path))[j]? = some y.path := by rw [List.getElem?_map, hj]; rfl
      have := nd_ix hn a b
      subst this
      rw [hi] at hj
      exact Option.some.inj hj
    rw [← this]
    exact h2
  · intro h
    exact ⟨(y.path, y.m), List.mem_map.mpr ⟨y, by rw [e]; simp, rfl⟩, rfl, h⟩
section
variable {K : PySem.W.Frag} {σ : L2.St} {H : Hp} {td ty : TE}
theorem eu_ifT {tt : TT} {ta tb : TE} {xs : List V} (h : EvT tt σ H true) (h1 : EvU ta σ H xs) : EvU (tIf tt ta tb) σ H xs := fun H1 e Q q => h H1 e _ fun H2 e2 => h1 H2 (e.trans e2) Q fun p H3 hp e3 h3 => q p H3 (fresh_back e2 hp) (e2.trans e3) h3
theorem eu_ifF {tt : TT} {ta tb : TE} {xs : List V} (h : EvT tt σ H false) (h1 : EvU tb σ H xs) : EvU (tIf tt ta tb) σ H xs := fun H1 e Q q => h H1 e _ fun H2 e2 => h1 H2 (e.trans e2) Q fun p H3 hp e3 h3 => q p H3 (fresh_back e2 hp) (e2.trans e3) h3
theorem ev_dgetT {a : Addr} {kvs : List (List Key × V)} {k : List Key} {v : V} (hd : Ev td σ H (.ref a)) (hk : EvU ty σ H (k.map kV)) (ha : H a = some (.dT kvs)) (g : valV kvs k = some v) : Ev (tDGet td ty) σ H v := fun H1 e Q q =>
  hd H1 e _ fun H2 e2 => hk H2 (e.trans e2) _ fun b H3 _ e3 hb => ⟨a, v, rfl, by rw [← g]; exact DGet.t (e3 _ _ (e2 _ _ (e _ _ ha))) hb, q H3 (e2.trans e3)⟩
end

section
variable {P : Program} {w : World} {K : PySem.W.Frag} {mg : Str → Option Value} {base : Heap}
abbrev n_Checker_paper : List Str := ["self", "path", "page", "holders"]
theorem sc_Checker_paper : FnScope n_Checker_paper ["self", "path", "page"] (defScope s_Checker_paper) := C8.fnScope_by (by decide +kernel)
def sp_Checker_paper (K : PySem.W.Frag) : Sp := fun vs H Q _ => ∃ (c s : Addr) (z : Szs) (ms : Ms) (there : List Str) (n : Int) (R : List HP) (path page : Str), vs = [.ref c, .str path, .str page] ∧ Sat H (CkP K c s z ms there n :: R) ∧ MsOk z ms ∧ path ∈ ms.map (·.1) ∧ ∀ v H', Ex H H' → PaperV H' v ms there n path page → Q v H'
theorem ok_Checker_paper  (T : Ctx K mg) : C8.Met P w K mg base 4 (He.ga K "Checker") "paper" (sp_Checker_paper K) [] := by
  refine met_of T.f_Checker_paper (T.cls _ (by decide)) (T.met ("Checker", "paper") (by decide)) (N := n_Checker_paper) sc_Checker_paper (fun _ _ _ _ _ _ us hl => match us, hl with | [_, _, _], _ => rfl) (fun vs H Q E h => ?len) (fun cdv A outer s H vs Q E hr h => ?body)
  case len =>
    obtain ⟨_, _, _, _, _, _, _, _, _, rfl, _⟩ := h
    rfl
  case body =>
    obtain ⟨c, s', z, ms, there, n, R, path, page, rfl, S, hM, hp, k⟩ := h
    refine ⟨_, (pss_cons (ps_if (pt_cmpR (op_in_own (ok_Alone_contains T) hr (by decide)) (pv 2) (pe_dget (hu_of hr) (pe_fldK (K := K) (pv 0)) (pv 1) (fun _ _ => rfl)) (by rfl)) (pss_one (ps_ret (pe_tup (pa_cons pe_str (pa_cons (pe_dget (hu_of hr) (pe_fldK (K := K) (pv 0)) (pe_tup (pa_cons (pv 1) (pa_cons (pv 2) pa_nil))) (fun _ _ => rfl)) pa_nil))))) pss_nil) (pss_cons (ps_if (pt_cmpR (op_notIn_seqK (K := K)) (pv 2) (pe_fldK (K := K) (pv 0)) (by rfl)) (pss_one (ps_ret pe_non)) pss_nil) (pss_cons (ps_set (i := 3) sc_Checker_paper.nd rfl (Or.inl rfl) (C8.pe_mt (ok_Checker_holders T) hr (by decide) (pv 0) (pa_cons (pv 2) pa_nil))) (pss_one (ps_ret (pe_ifExp (pt_cmpR (op_neDK (K := K) hr.units) (pv 3) (pe_tup pa_nil) (by rfl)) (pe_tup (pa_cons pe_str (pa_cons (pv 3) pa_nil))) (pe_tup (pa_cons pe_str (pa_cons (pe_dget (hu_of hr) (pe_fldK (K := K) (pv 0)) (pv 2) (fun _ _ => rfl)) pa_nil))))))))), ?_⟩
    have cl := T.cls "Checker" (by decide)
    obtain ⟨x, hO, S⟩ := CkP.open_.mp S
    have hms := hO.eq
    have hnd : (x.mx.map (·.path)).Nodup := by rw [← msOf_paths, hms]; exact hM.nodup
    have hp2 : path ∈ x.mx.map (·.path) := by rw [← msOf_paths, hms]; exact hp
    obtain ⟨l1, y, l2, e, rfl, hl1, hv⟩ := mdK_find hp2
    have hy : y ∈ x.mx := by rw [e]; simp
    obtain ⟨w', hw⟩ := S.ckM y hy
    have hiff := heldAt_mx e hnd page
    rw [hms] at hiff
    have hc := S.get 0 rfl
    have hlen : x.mx.length ≤ 100 := by
      have h1 := hM.len
      have h2 : (msOf x.mx).length = x.mx.length := List.length_map _
      rw [hms] at h2
      omega
    have fld : ∀ (H1 : Hp) (σ : L2.St) (f : Str) (v : V), Ex H H1 → σ[0]? = some (some (.ref c)) → (("Checker" : Str), f) ∈ fldN → (ckF s' n x).lookup f = some v → Ev (tFld K (tVar 0) f) σ H1 v := fun H1 σ f v e hσ hf hl => ev_fld (ev_var hσ) (e _ _ hc) cl (T.noat ("Checker", f) hf) hl
    refine q_when (b := decide (page ∈ y.m.pgs)) (et_test (ev_inOwn (ev_var rfl) (ev_dget (k := .str y.path) (v := .ref y.a) (fld H _ "own_machines" (.ref x.d) (Ex.refl _) rfl (by decide) rfl) (ev_var rfl) ?_) hw)) (fun hb H1 e1 => ?_) fun hb H1 e1 => ?_
    · rw [← hv]
      exact DGet.k (k := .inr y.path) (S.get 4 rfl)
    · have hb := of_decide_eq_true hb
      obtain ⟨sv, hsv⟩ := Option.isSome_iff_exists.mp (hO.since y hy page hb)
      exact s_retU (eu_tup (ea_cons ev_c (ea_cons (ev_dgetT (k := [.inr y.path, .inr page]) (fld H1 _ "own_since" (.ref x.si) e1 rfl (by decide) rfl) (eu_tup (ea_cons (ev_var rfl) (ea_cons (ev_var rfl) ea_nil)) (by show 2 ≤ 100000; decide)) (e1 _ _ (S.get 2 rfl)) hsv) ea_nil)) (by show 2 ≤ 100000; decide)) fun t H2 _ e2 h2 => k _ H2 (e1.trans e2) (.alone (hiff.mpr hb) rfl h2)
    have hb := of_decide_eq_false hb
    have hnh : ¬ heldAt ms y.path page := fun z => hb (hiff.mp z)
    refine q_when (b := !decide (page ∈ there)) (et_is (et_test (ev_op (ev_var rfl) (fld H1 _ "own_there" (.ref x.th) e1 rfl (by decide) rfl) (rv_niL (sq_of (e1 _ _ (S.get 1 rfl))) rfl (flatS _)))) (by rw [inS])) (fun hb2 H2 e2 => ?_) fun hb2 H2 e2 => ?_
    · exact s_ret ev_c fun H3 e3 => k _ H3 ((e1.trans e2).trans e3) (.none hnh (by simpa using hb2) rfl)
    have hth : page ∈ there := by simpa using hb2
    have e02 := e1.trans e2
    refine q_asgW (xs := (holdersF ms page).map V.str) (ew_meth (ev_var rfl) (e02 _ _ hc) rfl (ea_cons (ev_var rfl) ea_nil) fun H3 e3 Q q => ⟨c, s', z, there, n, x, R, page, rfl, S.same (e02.trans e3), hlen, by rw [hms]; exact q⟩) fun u H3 e3 hu => ?_
    have e03 := e02.trans e3
    have hne := ev_neTT (K := K) (σ := [some (.ref c), some (.str y.path), some (.str page), some (.ref u)]) (ta := tVar 3) (tb := tTup tNil) (xs := holdersF ms page) (ys := []) (ew_var rfl hu) (ew_new (eu_tup ea_nil (Nat.zero_le _))) (holders_ok hM page) (fun x hx => nomatch hx)
    by_cases hh : holdersF ms page = []
    · obtain ⟨kk, k1, k2, k3⟩ := hO.free page hth (holders_nil.mp hh)
      refine s_retU (eu_ifF (et_is (et_test hne) (by simp [hh])) <| eu_tup (ea_cons ev_c (ea_cons (ev_dget (k := .str page) (v := .int kk) (fld H3 _ "own_free" (.ref x.fr) e03 rfl (by decide) rfl) (ev_var rfl) ?_) ea_nil)) (by show 2 ≤ 100000; decide)) fun t H4 _ e4 h4 => k _ H4 (e03.trans e4) (.extra hnh hth hh rfl h4 k2 k3)
      rw [← k1]
      exact DGet.k (k := .inr page) (e03 _ _ (S.get 3 rfl))
    · exact s_retU (eu_ifT (et_is (et_test hne) (by simp [hh])) (eu_tup (ea_cons ev_c (ea_cons (ev_var rfl) ea_nil)) (by show 2 ≤ 100000; decide))) fun t H4 _ e4 h4 => k _ H4 (e03.trans e4) (.others hnh hth hh rfl h4 (e4 _ _ hu))
end
end N32
set_option Elab.async false
set_option linter.all false
set_option maxRecDepth 100000
set_option maxHeartbeats 4000000

namespace N32
open PySem PySem.Spec PyProof.Rows L2 Evl
theorem useR_pgs (rows : List RowD) (page : Str) (n : Int) : (useR rows page n).map (·.pg) = rows.map (·.pg) := by
  unfold useR
  rw [List.map_map]
  apply List.map_congr_left
  intro r _
  show (if r.pg = page then _ else r : RowD).pg = r.pg
  split <;> rfl
theorem pgs_req {z : Szs} {m : M} {at_ : Int} {page pg : Str} (hn : m.pgs.Nodup) : pg ∈ (reqF z m at_ page).pgs ↔ (pg ∈ m.pgs ∧ pg ∉ outF z m page) ∨ (pg = page ∧ keptF z m page = true) := by
  have hok := outF_ok (z := z) (page := page) hn
  show pg ∈ (if keptF z m page = true then (if page ∈ m.pgs then useR (dropR m.rows (outF z m page)) page (m.reqs + 1) else dropR m.rows (outF z m page) ++ [⟨page, m.reqs + 1, m.reqs + 1, 1, at_⟩]) else dropR m.rows (outF z m page) : List RowD).map (·.pg) ↔ _
  by_cases hk : keptF z m page = true
  · rw [if_pos hk]
    by_cases hp : page ∈ m.pgs
    · rw [if_pos hp, useR_pgs, pgs_drop]
      constructor
      · exact fun h => .inl h
      · rintro (h | ⟨rfl, _⟩)
        · exact h
        · exact ⟨hp, fun h => (hok.2 _ h).2 rfl⟩
    · rw [if_neg hp, List.map_append, List.mem_append, pgs_drop]
      constructor
      · rintro (h | h)
        · exact .inl h
        · exact .inr ⟨by simpa using h, hk⟩
      · rintro (h | ⟨rfl, _⟩)
        · exact .inl h
        · exact .inr (by simp)
  · rw [if_neg hk, pgs_drop]
    constructor
    · exact fun h => .inl h
    · rintro (h | ⟨_, h⟩)
      · exact h
      · exact (hk h).elim
def thereF1 (there : List Str) (page : Str) : List Str := if page ∈ there then there else there ++ [page]
def thereF (there : List Str) (page : Str) (out : List Str) : List Str := (thereF1 there page).filter fun p => decide (p ∉ out)
structure OutOk (z : Szs) (frames : Int) (ms : Ms) (there1 : List Str) (out : List Str) : Prop where
  nodup : out.Nodup
  sub : ∀ p ∈ out, p ∈ there1
  free : ∀ p ∈ out, ¬ pgHeld ms p
  fit : ((there1.filter fun p => decide (p ∉ out)).map (szOf z)).sum ≤ frames
structure StepOk (z : Szs) (frames : Int) (ms : Ms) (there : List Str) (q : Req) (out : List Str) : Prop where
  mok : MsOk z ms
  qok : ReqOk q
  path : q.path ∈ ms.map (·.1)
  moment : ∀ x ∈ ms, x.2.moment ≤ q.at_
  nd : there.Nodup
  pg : ∀ p ∈ there, p ∈ pagesL
  out : OutOk z frames (reqMs z ms q) (thereF1 there q.page) out
theorem thereF1_nd {there : List Str} {page : Str} (h : there.Nodup) : (thereF1 there page).Nodup := by
  unfold thereF1
  split
  · exact h
  · rename_i hp
    rw [List.nodup_append]
    exact ⟨h, by simp, fun a ha b hb => by rw [List.mem_singleton.mp hb]; rintro rfl; exact hp ha⟩
theorem thereF1_pg {there : List Str} {page : Str} (h : ∀ p ∈ there, p ∈ pagesL) (hp : page ∈ pagesL) : ∀ p ∈ thereF1 there page, p ∈ pagesL := by
  unfold thereF1
  split
  · exact h
  · intro p hm
    rcases List.mem_append.mp hm with a | a
    · exact h p a
    · rw [List.mem_singleton.mp a]; exact hp
theorem reqMs_paths (z : Szs) (ms : Ms) (q : Req) : (reqMs z ms q).map (·.1) = ms.map (·.1) := by
  unfold reqMs
  rw [List.map_map]
  apply List.map_congr_left
  intro x _
  show (if x.1 = q.path then _ else x : Str × M).1 = x.1
  split <;> rfl
theorem filter_snoc (l out : List Str) (p : Str) : (l.filter fun x => decide (x ∉ out ++ [p])) = (l.filter fun x => decide (x ∉ out)).filter fun x => x != p := by
  rw [List.filter_filter]
  apply List.filter_congr
  intro x _
  by_cases h : x = p
  · simp [h]
  · simp [h]
section
variable {K : PySem.W.Frag} {σ : L2.St} {H : Hp} {D : Ends} {tz tu : TS} {ta tb te : TE} {g : TG}
/-- over a new tuple -/
theorem q_forNU {xs : List V} {tl : TE} (h : EvU tl σ H xs) (Pv : Addr → Nat → L2.St → Hp → Prop) (h0 : ∀ p H1, H p = none → Ex H H1 → H1 p = some (.tup xs) → Pv p 0 σ H1) (hl : ∀ p i σ' H', i ≤ xs.length → Pv p i σ' H' → SqT K H' p xs)
    (hs : ∀ p i x σ' H', xs[i]? = some x → Pv p i σ' H' → g x σ' H' fun σ2 H2 => tu { D with nx := Pv p (i + 1), ct := Pv p (i + 1), bk := tz D } σ2 H2) (hd : ∀ p σ' H', Pv p xs.length σ' H' → tz D σ' H') : tSeq (tFor (iTup K tl) g tu) tz D σ H :=
  h H (Ex.refl H) _ fun p H1 hp e h1 => ⟨p, rfl, ⟨xs, st_of h1⟩, for_tup (D := { D with nx := tz D }) (Pv p) (h0 p H1 hp e h1) (hl p) (hs p) (hd p)⟩
/-- ( *t, e ) -/
theorem eu_star {u : Addr} {xs : List V} {y : V} (h : Ev te σ H (.ref u)) (hu : H u = some (.tup xs)) (hy : Ev ta σ H y) (hl : xs.length ≤ 1000) : EvU (tTup (StX.tStar K te (tCons ta tNil))) σ H (xs ++ [y]) := fun H1 e Q q =>
  h H1 e _ fun H2 e2 => ⟨u, xs, rfl, .inl (st_of (e2 _ _ (e _ _ hu))), hy H2 (e.trans e2) _ fun H3 e3 => ⟨sz_of (by rw [List.length_append, List.length_singleton]; omega), fun p hp => q p _ (fresh_back (e2.trans e3) hp) ((e2.trans e3).trans (Ex.new hp)) upd_same⟩⟩
theorem q_fldAug {tv : TE} {a C dx : Addr} {fs : List (Str × V)} {f : Str} {i j : Int} (ha : Ev ta σ H (.ref a)) (ho : H a = some (.ins C dx fs)) (c : Cls K C) (n : NoAttr K C f) (hl : fs.lookup f = some (.int i)) (hv : Ev tv σ H (.int j)) (len : fs.length < 1000) (k : ∀ H1, Ex H H1 → tz D σ (upd H1 a (.ins C dx (putF f (.int (i + j)) fs)))) : tSeq (sFldAug K ta tv rAdd f) tz D σ H :=
  ha H (Ex.refl _) _ fun H1 e1 => ⟨a, C, dx, fs, .int i, rfl, e1 _ _ ho, c, n, hl, hv H1 e1 _ fun H2 e2 => ⟨i, j, rfl, rfl, dx, fs, e2 _ _ (e1 _ _ ho), len, k H2 (e1.trans e2)⟩⟩
theorem ev_prop {C : Addr} {sp : Sp} {a dx : Addr} {fs : List (Str × V)} {v : V} (ha : Ev ta σ H (.ref a)) (ho : H a = some (.ins C dx fs)) (hs : ∀ H1, Ex H H1 → ∀ Q : VK, RetV v H1 Q → sp [.ref a] H1 Q C8.E0) : Ev (tProp C sp [] C8.E0 ta) σ H v := fun H1 e Q q =>
  ha H1 e _ fun H2 e2 => ⟨a, dx, fs, rfl, e2 _ _ (e _ _ ho), hs H2 (e.trans e2) Q fun H3 e3 => q H3 (e2.trans e3)⟩
end
theorem holders_okP {ms : Ms} (h : ∀ x ∈ ms, x.1 ∈ pathsL) (p : Str) : ∀ x ∈ holdersF ms p, PyData.strOk x = true := fun x hx => by
  obtain ⟨y, hy, rfl⟩ := List.mem_map.mp hx
  exact pathsL_ok _ (h y (List.mem_filter.mp hy).1)
theorem mdK_mid (l1 l2 : List MY) (y : MY) (m : M) : mdK (l1 ++ ⟨y.path, y.a, m⟩ :: l2) = mdK (l1 ++ y :: l2) := by
  unfold mdK
  rw [List.map_append, List.map_append, List.map_cons, List.map_cons]
theorem StepOk.held {z : Szs} {ms : Ms} {q : Req} (h : MsOk z ms) {l1 l2 : List MY} {y : MY} (e : msOf (l1 ++ y :: l2) = ms) (hp : y.path = q.path) (pg : Str) : pgHeld (reqMs z ms q) pg ↔ (∃ w ∈ l1 ++ l2, pg ∈ w.m.pgs) ∨ pg ∈ (reqF z y.m q.at_ q.page).pgs := by
  have hn : ((l1 ++ y :: l2).map (·.path)).Nodup := by rw [← msOf_paths, e]; exact h.nodup
  rw [← e, reqMs_mid hp hn]
  unfold pgHeld msOf
  constructor
  · rintro ⟨x, hx, hpg⟩
    obtain ⟨w, hw, rfl⟩ := List.mem_map.mp hx
    rcases List.mem_append.mp hw with a | a
    · exact .inl ⟨w, List.mem_append.mpr (.inl a), hpg⟩
    · rcases List.mem_cons.mp a with rfl | a
      · exact .inr hpg
      · exact .inl ⟨w, List.mem_append.mpr (.inr a), hpg⟩
  · rintro (⟨w, hw, hpg⟩ | hpg)
    · refine ⟨_, List.mem_map.mpr ⟨w, ?_, rfl⟩, hpg⟩
      rcases List.mem_append.mp hw with a | a
      · exact List.mem_append.mpr (.inl a)
      · exact List.mem_append.mpr (.inr (List.mem_cons_of_mem _ a))
    · exact ⟨_, List.mem_map.mpr ⟨⟨y.path, y.a, reqF z y.m q.at_ q.page⟩, by simp, rfl⟩, hpg⟩

section
variable {P : Program} {w : World} {K : PySem.W.Frag} {mg : Str → Option Value} {base : Heap}
abbrev n_Checker_step : List Str := ["self", "request", "out", "at", "kind", "path", "page", "was_free", "move", "name", "total"]
theorem sc_Checker_step : FnScope n_Checker_step ["self", "request", "out"] (defScope s_Checker_step) := C8.fnScope_by (by decide +kernel)
def sp_Checker_step (K : PySem.W.Frag) : Sp := fun vs H Q _ => ∃ (c s rq ou : Addr) (z : Szs) (ms : Ms) (there : List Str) (n frames : Int) (ts : List (TnS (Kid 2))) (q : Req) (out : List Str) (R : List HP), vs = [.ref c, .ref rq, .ref ou] ∧ Sat H (CkP K c s z ms there n :: SetupP K s frames z ts :: R) ∧ H rq = some (.tup q.vs) ∧ H ou = some (.tup (out.map V.str)) ∧ SzOk z ∧ StepOk z frames ms there q out ∧ 0 ≤ n ∧ n ≤ 100 ∧
  ∀ H', Sat H' (CkP K c s z (reqMs z ms q) (thereF there q.page out) (n + 1) :: SetupP K s frames z ts :: R) → Tu H H' → Q .non H'
theorem ok_Checker_step  (T : Ctx K mg) : C8.Met P w K mg base 7 (He.ga K "Checker") "step" (sp_Checker_step K) [] := by
  refine met_of T.f_Checker_step (T.cls _ (by decide)) (T.met ("Checker", "step") (by decide)) (N := n_Checker_step) sc_Checker_step (fun _ _ _ _ _ _ us hl => match us, hl with | [_, _, _], _ => rfl) (fun vs H Q E h => ?len) (fun cdv A outer s H vs Q E hr h => ?body)
  case len =>
    obtain ⟨_, _, _, _, _, _, _, _, _, _, _, _, _, rfl, _⟩ := h
    rfl
  case body =>
    obtain ⟨c, s', rq, ou, z, ms, there, n, frames, ts, q, out, R, rfl, S, hrq, hou, hz, hst, hn0, hn1, k⟩ := h
    refine ⟨_, (pss_cons (ps_asg (pv 1) (pg_tupK (K := K) (n := 4) (by rfl) (pgs_cons (pg_name (i := 3) sc_Checker_step.nd rfl (Or.inl rfl)) (pgs_cons (pg_name (i := 4) sc_Checker_step.nd rfl (Or.inl rfl)) (pgs_cons (pg_name (i := 5) sc_Checker_step.nd rfl (Or.inl rfl)) (pgs_cons (pg_name (i := 6) sc_Checker_step.nd rfl (Or.inl rfl)) pgs_nil)))))) (pss_cons (ps_fldaugK (K := K) (pv 0) pe_int in_add) (pss_cons (ps_set (i := 7) sc_Checker_step.nd rfl (Or.inl rfl) (pe_and (pe_cmpR (op_in_seqK (K := K)) (pv 6) (pe_fldK (K := K) (pv 0)) (by rfl)) (pe_one (pe_cmpR (op_eqDK (K := K) hr.units) (C8.pe_mt (ok_Checker_holders T) hr (by decide) (pv 0) (pa_cons (pv 6) pa_nil)) (pe_tup pa_nil) (by rfl))))) (pss_cons (ps_set (i := 8) sc_Checker_step.nd rfl (Or.inl rfl) (C8.pe_mt (ok_Alone_request T) hr (by decide) (pe_dget (hu_of hr) (pe_fldK (K := K) (pv 0)) (pv 5) (fun _ _ => rfl)) (pa_cons (pv 3) (pa_cons (pv 4) (pa_cons (pv 6) pa_nil))))) (pss_cons (ps_if (PW.pt (pw_and (pt_val (pe_pr (ok_Move_kept T) hr (by decide) (pv 8))) (pw_and1 (pt_not (pt_val (pe_pr (ok_Move_hit T) hr (by decide) (pv 8))))))) (pss_one (ps_dput (hu_of hr) (pe_fldK (K := K) (pv 0)) (pe_tup (pa_cons (pv 5) (pa_cons (pv 6) pa_nil))) (pe_fldK (K := K) (pv 0)) rfl)) pss_nil) (pss_cons (ps_for PassesOwn.never (by rfl) (pi_tupK (K := K) (pe_tup (pa_starK (K := K) (pe_pr (ok_Move_out T) hr (by decide) (pv 8)) (pa_cons (pv 6) pa_nil)))) (pg_name (i := 9) sc_Checker_step.nd rfl (Or.inl rfl)) (pss_one (ps_if (PW.pt (pw_and (pt_cmpR (op_eqDK (K := K) hr.units) (C8.pe_mt (ok_Checker_holders T) hr (by decide) (pv 0) (pa_cons (pv 9) pa_nil)) (pe_tup pa_nil) (by rfl)) (pw_and1 (pt_not (PW.pt (pw_and (pt_cmpR op_eq (pv 9) (pv 6) (by rfl)) (pw_and1 (pt_val (pv 7))))))))) (pss_one (ps_dput (hu_of hr) (pe_fldK (K := K) (pv 0)) (pv 9) (pe_fldK (K := K) (pv 0)) rfl)) pss_nil))) (pss_cons (ps_if (pt_cmpR (op_notIn_seqK (K := K)) (pv 6) (pe_fldK (K := K) (pv 0)) (by rfl)) (pss_one (ps_expr (pe_bmK (K := K) PySem.F.plainAttrs_list PySem.F.slot_list_append PySem.F.type_list_append mt_append (pe_fldK (K := K) (pv 0)) (pa_cons (pv 6) pa_nil)))) pss_nil) (pss_cons (ps_for PassesOwn.never (by rfl) (pi_tupK (K := K) (pv 2)) (pg_name (i := 9) sc_Checker_step.nd rfl (Or.inl rfl)) (pss_cons (ps_if (pt_cmpR (op_notIn_seqK (K := K)) (pv 9) (pe_fldK (K := K) (pv 0)) (by rfl)) (pss_one (ps_ret pe_str)) pss_nil) (pss_cons (ps_if (pt_cmpR (op_neDK (K := K) hr.units) (C8.pe_mt (ok_Checker_holders T) hr (by decide) (pv 0) (pa_cons (pv 9) pa_nil)) (pe_tup pa_nil) (by rfl)) (pss_one (ps_ret pe_str)) pss_nil) (pss_one (ps_expr (pe_bmK (K := K) PySem.F.plainAttrs_list PySem.F.slot_list_remove PySem.F.type_list_remove mt_removeX (pe_fldK (K := K) (pv 0)) (pa_cons (pv 9) pa_nil))))))) (pss_cons (ps_set (i := 10) sc_Checker_step.nd rfl (Or.inl rfl) (pe_callB (cr_sumK (K := K) rfl) (by rfl) (T.free _ (by decide)) (by decide +kernel) (pa_cons (pe_lc (own := [("name", 9)]) (by rfl) sc_Checker_step.nd (pi_listK (K := K) (pe_fldK (K := K) (pv 0))) (blkOk_by (own := [("name", 9)]) (N := n_Checker_step) (sc := defScope s_Checker_step) (by decide +kernel)) (fun _ _ _ _ _ => pg_name (i := 9) sc_Checker_step.nd rfl (Or.inl rfl)) (fun _ _ _ _ _ => by exact pts_nil) (fun _ _ _ _ _ => by exact (C8.pe_mt (ok_Setup_size T) hr (by decide) (pe_fldK (K := K) (pv 0)) (pa_cons (pv 9) pa_nil)))) pa_nil))) (pss_one (ps_ret (pe_ifExp (pt_cmpR op_gt (pv 10) (pe_pr (ok_Setup_frames T) hr (by decide) (pe_fldK (K := K) (pv 0))) (by rfl)) pe_str pe_non)))))))))))), ?_⟩
    have cl := T.cls "Checker" (by decide)
    obtain ⟨⟨dx, d, th, si, fr, mx, since, free⟩, hO, S⟩ := CkP.open_.mp S
    have hM := hst.mok
    have hms : msOf mx = ms := hO.eq
    have hnd : (mx.map (·.path)).Nodup := by rw [← msOf_paths, hms]; exact hM.nodup
    have hp2 : q.path ∈ mx.map (·.path) := by rw [← msOf_paths, hms]; exact hst.path
    obtain ⟨l1, y, l2, e, hyp, hl1, hv⟩ := mdK_find hp2
    subst e
    have hlen : (l1 ++ y :: l2).length ≤ 100 := by
      have h1 := hM.len
      have h2 : (msOf (l1 ++ y :: l2)).length = (l1 ++ y :: l2).length := List.length_map _
      rw [hms] at h2
      omega
    have hymem : (y.path, y.m) ∈ ms := by rw [← hms]; exact List.mem_map.mpr ⟨y, by simp, rfl⟩
    have hyok := hM.ok _ hymem
    have hymom := hst.moment _ hymem
    refine ⟨_, rfl, rq, _, rfl, st_of hrq, rfl, _, _, rfl, _, _, rfl, _, _, rfl, _, _, rfl, rfl, ?_⟩
    refine q_fldAug (i := n) (j := 1) (ev_var rfl) (S.get 0 rfl) cl (T.noat ("Checker", "own_number") (by decide)) rfl ev_c lt1000 fun H1 e1 => ?_
    have S1 : Sat (upd H1 c (.ins (He.ga K "Checker") dx (ckF s' (n + 1) ⟨dx, d, th, si, fr, l1 ++ y :: l2, since, free⟩))) (ckCs K c s' z there (n + 1) ⟨dx, d, th, si, fr, l1 ++ y :: l2, since, free⟩ ++ SetupP K s' frames z ts :: R) := (S.same e1).put (o' := .ins (He.ga K "Checker") dx (ckF s' (n + 1) ⟨dx, d, th, si, fr, l1 ++ y :: l2, since, free⟩)) 0 rfl
    have t1 : Tu H (upd H1 c (.ins (He.ga K "Checker") dx (ckF s' (n + 1) ⟨dx, d, th, si, fr, l1 ++ y :: l2, since, free⟩))) := (Ex.tu e1).trans (Tu.upd ((S.same e1).get 0 rfl))
    rw [show putF "own_number" (V.int (n + 1)) (ckF s' n ⟨dx, d, th, si, fr, l1 ++ y :: l2, since, free⟩) = ckF s' (n + 1) ⟨dx, d, th, si, fr, l1 ++ y :: l2, since, free⟩ from rfl]
    generalize upd H1 c (.ins (He.ga K "Checker") dx (ckF s' (n + 1) ⟨dx, d, th, si, fr, l1 ++ y :: l2, since, free⟩)) = H2 at S1 t1 ⊢
    -- a free page of the set before
    refine q_asg (v := .bl (decide (q.page ∈ there) && decide (holdersF ms q.page = []))) (ev_andV (ev_is (ev_op (ev_var rfl) (ev_fld (ev_var rfl) (S1.get 0 rfl) cl (T.noat ("Checker", "own_there") (by decide)) rfl) (rv_isL (sq_of (S1.get 1 rfl)) rfl (flatS _))) (by rw [inS])) fun _ =>
      ev_eqTT (xs := holdersF ms q.page) (ys := []) (ew_meth (ev_var rfl) (S1.get 0 rfl) rfl (ea_cons (ev_var rfl) ea_nil) fun H3 e3 Q q' => ⟨c, s', z, there, n + 1, _, _, q.page, rfl, S1.same e3, hlen, by rw [hms]; exact q'⟩) (ew_new (eu_tup ea_nil (Nat.zero_le _))) (holders_ok hM q.page) (fun x hx => nomatch hx)) fun H3 e3 => ?_
    have S3 := S1.same e3
    -- asked
    have hyM : ∃ w, MachV K H3 y.a z y.m w := S3.ckM y (by show y ∈ l1 ++ y :: l2; simp)
    obtain ⟨wy, hwy⟩ := hyM
    have S3p := ms_focus.mp (S3.pull 5 rfl)
    refine q_asgD ?_
    refine ⟨_, rfl, c, _, dx, _, .ref d, rfl, S3.get 0 rfl, cl, T.noat ("Checker", "own_machines") (by decide), rfl, _, rfl, d, .ref y.a, rfl, ?_, y.a, wy.dx, _, rfl, hwy.ins, rfl, _, rfl, _, rfl, _, rfl, y.a, z, y.m, q.at_, q.kind, q.page, _, rfl, S3p, hyok, hz, hymom, by have := hst.qok.at1; omega, hst.qok.kind, hst.qok.page, fun mv mdx mo mu mserved H4 S4 hmo t4 => ?_⟩
    · rw [← hv]
      exact DGet.k (k := .inr q.path) (S3.get 4 rfl)
    let y' : MY := ⟨y.path, y.a, reqF z y.m q.at_ q.page⟩
    have hms' : msOf (l1 ++ y' :: l2) = reqMs z ms q := by rw [← hms]; exact (reqMs_mid hyp hnd).symm
    have S4a : Sat H4 (MachP K y'.a z y'.m :: (machPs K z l1 ++ machPs K z l2 ++ _ :: _)) := S4.swap.perm (List.Perm.cons _ List.perm_middle.symm)
    have S4b := (ms_focus (y := y')).mpr S4a
    have S4c := S4b.perm (l' := [pt c (.ins (He.ga K "Checker") dx (ckF s' (n + 1) ⟨dx, d, th, si, fr, l1 ++ y :: l2, since, free⟩)), pt th (.lst (there.map V.str)), pt si (.dT since), pt fr (.dK free), pt d (.dK (mdK (l1 ++ y :: l2)))] ++ al (machPs K z (l1 ++ y' :: l2)) :: pt mv (.ins (He.ga K "Move") mdx (moveF (decide (q.page ∈ y.m.pgs)) (keptF z y.m q.page) mo mu mserved)) :: SetupP K s' frames z ts :: R)
      (List.perm_middle.trans (List.perm_middle.cons _)).symm
    rw [← mdK_mid l1 l2 y (reqF z y.m q.at_ q.page)] at S4c
    have S5 : Sat H4 (ckCs K c s' z there (n + 1) ⟨dx, d, th, si, fr, l1 ++ y' :: l2, since, free⟩ ++ pt mv (.ins (He.ga K "Move") mdx (moveF (decide (q.page ∈ y.m.pgs)) (keptF z y.m q.page) mo mu mserved)) :: SetupP K s' frames z ts :: R) := S4c
    clear S4a S4b S4c S4
    have t5 : Tu H H4 := (t1.trans (Ex.tu e3)).trans t4
    have hpy : ∀ pg, pg ∈ y'.m.pgs ↔ (pg ∈ y.m.pgs ∧ pg ∉ outF z y.m q.page) ∨ (pg = q.page ∧ keptF z y.m q.page = true) := fun pg => pgs_req hyok.nodup
    have hok := outF_ok (z := z) (page := q.page) hyok.nodup
    have hsince0 : ∀ w ∈ l1 ++ y :: l2, ∀ pg ∈ w.m.pgs, (valV since [.inr w.path, .inr pg]).isSome = true := hO.since
    have hsl : (since.length : Int) ≤ n := hO.sl
    have mvp : ∀ (H1 : Hp) (σ : L2.St), Ex H4 H1 → σ[8]? = some (some (.ref mv)) → Ev (tProp (He.ga K "Move") (sp_Move_kept K) [] C8.E0 (tVar 8)) σ H1 (.bl (keptF z y.m q.page)) ∧ Ev (tProp (He.ga K "Move") (sp_Move_hit K) [] C8.E0 (tVar 8)) σ H1 (.bl (decide (q.page ∈ y.m.pgs))) := fun H1 σ e hσ => by
      have hmv := e _ _ (S5.get 6 rfl)
      exact ⟨ev_prop (ev_var hσ) hmv fun H2 e2 Q q' => ⟨mv, mdx, mo, mu, _, _, mserved, rfl, e2 _ _ hmv, q'⟩, ev_prop (ev_var hσ) hmv fun H2 e2 Q q' => ⟨mv, mdx, mo, mu, _, _, mserved, rfl, e2 _ _ hmv, q'⟩⟩
    refine q_ifPv (b := keptF z y.m q.page && !decide (q.page ∈ y.m.pgs)) (fun σ' H' => ∃ since2, σ' = [some (.ref c), some (.ref rq), some (.ref ou), some (.int q.at_), some (.str q.kind), some (.str q.path), some (.str q.page), some (.bl (decide (q.page ∈ there) && decide (holdersF ms q.page = []))), some (.ref mv), none, none] ∧
      Sat H' (ckCs K c s' z there (n + 1) ⟨dx, d, th, si, fr, l1 ++ y' :: l2, since2, free⟩ ++ pt mv (.ins (He.ga K "Move") mdx (moveF (decide (q.page ∈ y.m.pgs)) (keptF z y.m q.page) mo mu mserved)) :: SetupP K s' frames z ts :: R) ∧ Tu H4 H' ∧
      (∀ w ∈ l1 ++ y' :: l2, ∀ pg ∈ w.m.pgs, (valV since2 [.inr w.path, .inr pg]).isSome = true) ∧ (since2.length : Int) ≤ n + 1) (et_and (et_B (mvp H4 _ (Ex.refl _) rfl).1) fun _ => et_not (et_B (mvp H4 _ (Ex.refl _) rfl).2)) ?_ ?_ ?_
    · intro hb H5 e5 nx hnx
      have S6 := S5.same e5
      refine ⟨_, rfl, c, _, dx, _, .int (n + 1), rfl, S6.get 0 rfl, cl, T.noat ("Checker", "own_number") (by decide), rfl, _, rfl, c, _, dx, _, .ref si, rfl, S6.get 0 rfl, cl, T.noat ("Checker", "own_since") (by decide), rfl, _, rfl, _, rfl, sz_of (by show 2 ≤ 100000; decide), fun b hb2 => ?_⟩
      have S7 := S6.same (Ex.new (o := .tup [.str q.path, .str q.page]) hb2)
      refine ⟨si, _, rfl, DPut.t (k := [.inr q.path, .inr q.page]) (S7.get 2 rfl) upd_same (sz_lt (show since.length < 100000 by omega)), hnx _ _ ⟨putK since [.inr q.path, .inr q.page] (.int (n + 1)), rfl, S7.put 2 rfl, ((Ex.tu e5).trans (Tu.new hb2)).trans (Tu.upd (S7.get 2 rfl)), fun w hw pg hpg => ?_, ?_⟩⟩
      · rw [valV_put]
        split
        · rfl
        · rename_i hne
          rcases List.mem_append.mp hw with a | a
          · exact hsince0 w (List.mem_append.mpr (.inl a)) pg hpg
          · rcases List.mem_cons.mp a with rfl | a
            · rcases (hpy pg).mp hpg with h | h
              · exact hsince0 y (by simp) pg h.1
              · exact (hne (by rw [h.1]; show [Sum.inr y.path, _] = _; rw [hyp])).elim
            · exact hsince0 w (List.mem_append.mpr (.inr (List.mem_cons_of_mem _ a))) pg hpg
      · have := length_putK since ([.inr q.path, .inr q.page] : List Key) (.int (n + 1))
        omega
    · intro hb H5 e5 nx hnx
      refine hnx _ _ ⟨since, rfl, S5.same e5, Ex.tu e5, fun w hw pg hpg => ?_, by omega⟩
      rcases List.mem_append.mp hw with a | a
      · exact hsince0 w (List.mem_append.mpr (.inl a)) pg hpg
      · rcases List.mem_cons.mp a with rfl | a
        · rcases (hpy pg).mp hpg with h | h
          · exact hsince0 y (by simp) pg h.1
          · rw [h.2] at hb
            have : q.page ∈ y.m.pgs := by simpa using hb
            exact hsince0 y (by simp) pg (by rw [h.1]; exact this)
        · exact hsince0 w (List.mem_append.mpr (.inr (List.mem_cons_of_mem _ a))) pg hpg
    rintro σ' H5 ⟨since2, rfl, S6, t6, hsince2, hsl2⟩
    have hpaths' : ∀ x ∈ reqMs z ms q, x.1 ∈ pathsL := fun x hx => by
      have : x.1 ∈ (reqMs z ms q).map (·.1) := List.mem_map_of_mem hx
      rw [reqMs_paths] at this
      obtain ⟨w, hw, e⟩ := List.mem_map.mp this
      rw [← e]
      exact hM.paths w hw
    have hlen' : (l1 ++ y' :: l2).length ≤ 100 := by
      rw [List.length_append, List.length_cons] at hlen ⊢
      exact hlen
    have hol : (outF z y.m q.page).length ≤ 8 := by
      have h2 : (outF z y.m q.page).length ≤ y.m.pgs.length := nodup_len hok.1 fun p hp => (hok.2 p hp).1
      have h3 : y.m.pgs.length = y.m.rows.length := List.length_map _
      have : y.m.rows.length ≤ 8 := hyok.len hz
      omega
    generalize hwas : (decide (q.page ∈ there) && decide (holdersF ms q.page = [])) = was at S6
    -- free pages
    have hmo6 : H5 mo = some (.tup ((outF z y.m q.page).map V.str)) := t6 _ _ hmo
    have holdE : ∀ (σ : L2.St) (H1 : Hp) (th0 : List Str) (si0 : List (List Key × V)) (fr0 : List (Key × V)) (R0 : List HP) (nm : Str) (j : Nat), Sat H1 (ckCs K c s' z th0 (n + 1) ⟨dx, d, th, si, fr, l1 ++ y' :: l2, si0, fr0⟩ ++ R0) → σ[0]? = some (some (.ref c)) → σ[j]? = some (some (.str nm)) → EvW (tMeth (He.ga K "Checker") "holders" (sp_Checker_holders K) [] C8.E0 (tVar 0) (tCons (tVar j) tNil)) σ H1 ((holdersF (reqMs z ms q) nm).map V.str) := fun σ H1 th0 si0 fr0 R0 nm j S0 h0 hj =>
      ew_meth (ev_var h0) (S0.get 0 rfl) rfl (ea_cons (ev_var hj) ea_nil) fun H3 e3 Q q' => ⟨c, s', z, th0, n + 1, _, R0, nm, rfl, S0.same e3, hlen', by rw [hms']; exact q'⟩
    refine q_forNU (xs := ((outF z y.m q.page) ++ [q.page]).map V.str) (fun H6 e6 Q q' => ?_) (fun p i σ' H' => ∃ (a : Option V) (free2 : List (Key × V)), σ' = [some (.ref c), some (.ref rq), some (.ref ou), some (.int q.at_), some (.str q.kind), some (.str q.path), some (.str q.page), some (.bl was), some (.ref mv), a, none] ∧
      Sat H' (ckCs K c s' z there (n + 1) ⟨dx, d, th, si, fr, l1 ++ y' :: l2, since2, free2⟩ ++ pt mv (.ins (He.ga K "Move") mdx (moveF (decide (q.page ∈ y.m.pgs)) (keptF z y.m q.page) mo mu mserved)) :: SetupP K s' frames z ts :: R) ∧ Tu H5 H' ∧ H' p = some (.tup (((outF z y.m q.page) ++ [q.page]).map V.str)) ∧
      (∀ j nm, j < i → ((outF z y.m q.page) ++ [q.page])[j]? = some nm → ¬ pgHeld (reqMs z ms q) nm → ¬ (nm = q.page ∧ was = true) → valV free2 (.inr nm) = some (.int (n + 1))) ∧ (∀ pg : Str, valV free2 (.inr pg) = valV free (.inr pg) ∨ valV free2 (.inr pg) = some (.int (n + 1))) ∧ (free2.length : Int) ≤ 100 * n + i) ?_ ?_ ?_ ?_
    · have hS := S6.same e6
      have := eu_star (σ := [some (.ref c), some (.ref rq), some (.ref ou), some (.int q.at_), some (.str q.kind), some (.str q.path), some (.str q.page), some (.bl was), some (.ref mv), none, none]) (K := K) (te := tProp (He.ga K "Move") (sp_Move_out K) [] C8.E0 (tVar 8)) (ta := tVar 6) (y := .str q.page) (ev_prop (ev_var rfl) (hS.get 6 rfl) fun H2 e2 Q q' => ⟨mv, mdx, mo, mu, _, _, mserved, rfl, e2 _ _ (hS.get 6 rfl), q'⟩) (e6 _ _ hmo6) (ev_var rfl) (by rw [List.length_map]; omega)
      exact this H6 (Ex.refl _) Q fun p H2 a b c => q' p H2 a b (by rw [List.map_append]; exact c)
    · intro p H6 hp e6 h6
      exact ⟨_, free, rfl, S6.same e6, Ex.tu e6, h6, fun j nm hj => by omega, fun pg => .inl rfl, by have : (free.length : Int) ≤ 100 * n := hO.fl; omega⟩
    · rintro p i σ' H' hi ⟨a, free2, rfl, p1, p2, p3, _⟩
      exact st_of p3
    · rintro p i x σ' H' hx ⟨a, free2, rfl, p1, p2, p3, p4, p5, p6⟩
      rw [List.getElem?_map] at hx
      obtain ⟨nm, hnm, rfl⟩ := Option.map_eq_some_iff.mp hx
      have hi9 : i < (outF z y.m q.page ++ [q.page]).length := (List.getElem?_eq_some_iff.mp hnm).1
      rw [List.length_append, List.length_singleton] at hi9
      refine s_when (b := decide (holdersF (reqMs z ms q) nm = []) && !(decide (nm = q.page) && was)) (et_and (et_test (ev_eqTT (xs := holdersF (reqMs z ms q) nm) (ys := []) (holdE _ _ _ _ _ _ nm 9 p1 rfl rfl) (ew_new (eu_tup ea_nil (Nat.zero_le _))) (holders_okP hpaths' nm) (fun x hx => nomatch hx))) fun _ =>
        et_not (et_and (et_test (ev_op (ev_var rfl) (ev_var rfl) (rv_eq2 rfl (dstr _ _)))) fun _ => et_B (ev_var rfl))) (fun hb H6 e6 => ?_) fun hb H6 e6 => ?_
      · have S7 := p1.same e6
        refine ⟨_, rfl, c, _, dx, _, .int (n + 1), rfl, S7.get 0 rfl, cl, T.noat ("Checker", "own_number") (by decide), rfl, _, rfl, c, _, dx, _, .ref fr, rfl, S7.get 0 rfl, cl, T.noat ("Checker", "own_free") (by decide), rfl, _, rfl, fr, _, rfl, DPut.k (k := .inr nm) (S7.get 3 rfl) (sz_lt (show free2.length < 100000 by omega)), ?_⟩
        refine ⟨_, putK free2 (.inr nm) (.int (n + 1)), rfl, S7.put 3 rfl, (p2.trans (Ex.tu e6)).trans (Tu.upd (S7.get 3 rfl)), ?_, fun j nm2 hj hnm2 h1 h2 => ?_, fun pg => ?_, ?_⟩
        · exact Tu.upd (S7.get 3 rfl) (fun z => z) _ _ (e6 _ _ p3)
        · rw [valV_put]
          split
          · rfl
          · rename_i hne
            by_cases hji : j = i
            · subst hji
              rw [hnm] at hnm2
              cases hnm2
              exact (hne rfl).elim
            · exact p4 j nm2 (by omega) hnm2 h1 h2
        · rw [valV_put]
          split
          · exact .inr rfl
          · exact p5 pg
        · have := length_putK free2 (.inr nm : Key) (.int (n + 1))
          omega
      · refine ⟨_, free2, rfl, p1.same e6, p2.trans (Ex.tu e6), e6 _ _ p3, fun j nm2 hj hnm2 h1 h2 => ?_, p5, by omega⟩
        by_cases hji : j = i
        · subst hji
          rw [hnm] at hnm2
          cases hnm2
          rw [decide_eq_true (holders_nil.mpr h1), Bool.true_and] at hb
          have hb : (decide (nm = q.page) && was) = true := by simpa using hb
          rw [Bool.and_eq_true, decide_eq_true_eq] at hb
          exact (h2 hb).elim
        · exact p4 j nm2 (by omega) hnm2 h1 h2
    rintro p σ' H6 ⟨a, free2, rfl, S7, t7, _, hf1, hf2, hf3⟩
    rw [List.length_map] at hf1 hf3
    have hfree2 : ∀ pg ∈ thereF1 there q.page, ¬ pgHeld (reqMs z ms q) pg → ∃ kk : Int, valV free2 (.inr pg) = some (.int kk) ∧ 1 ≤ kk ∧ kk ≤ n + 1 := by
      intro pg hpg hnh
      have old : ¬ pgHeld ms pg → pg ∈ there → ∃ kk : Int, valV free2 (.inr pg) = some (.int kk) ∧ 1 ≤ kk ∧ kk ≤ n + 1 := fun h1 h2 => by
        obtain ⟨kk, k1, k2, k3⟩ := hO.free pg h2 h1
        have k1 : valV free (.inr pg) = some (.int kk) := k1
        rcases hf2 pg with h | h
        · exact ⟨kk, by rw [h, k1], k2, by omega⟩
        · exact ⟨n + 1, h, by omega, Int.le_refl _⟩
      have new : ∀ j, ((outF z y.m q.page) ++ [q.page])[j]? = some pg → ¬ (pg = q.page ∧ was = true) → ∃ kk : Int, valV free2 (.inr pg) = some (.int kk) ∧ 1 ≤ kk ∧ kk ≤ n + 1 := fun j hj h => ⟨n + 1, hf1 j pg (List.getElem?_eq_some_iff.mp hj).1 hj hnh h, by omega, Int.le_refl _⟩
      by_cases hpp : pg = q.page
      · by_cases hw : was = true
        · rw [← hwas, Bool.and_eq_true, decide_eq_true_eq, decide_eq_true_eq] at hw
          rw [hpp] at old ⊢
          exact old (holders_nil.mp hw.2) hw.1
        · exact new (outF z y.m q.page).length (by rw [hpp]; simp) fun h => hw h.2
      · have hin : pg ∈ there := by
          unfold thereF1 at hpg
          split at hpg
          · exact hpg
          · rcases List.mem_append.mp hpg with h | h
            · exact h
            · exact (hpp (List.mem_singleton.mp h)).elim
        by_cases hh : pgHeld ms pg
        · have hnh2 := fun h => hnh ((StepOk.held hM hms hyp pg).mpr h)
          have hym : pg ∈ y.m.pgs := by
            rw [← hms] at hh
            obtain ⟨x, hx, hxp⟩ := hh
            obtain ⟨w, hw, rfl⟩ := List.mem_map.mp hx
            rcases List.mem_append.mp hw with a | a
            · exact (hnh2 (.inl ⟨w, List.mem_append.mpr (.inl a), hxp⟩)).elim
            · rcases List.mem_cons.mp a with rfl | a
              · exact hxp
              · exact (hnh2 (.inl ⟨w, List.mem_append.mpr (.inr a), hxp⟩)).elim
          have hout : pg ∈ outF z y.m q.page := Classical.byContradiction fun hno => hnh2 (.inr ((hpy pg).mpr (.inl ⟨hym, hno⟩)))
          obtain ⟨j, hj⟩ := List.mem_iff_getElem?.mp hout
          refine new j ?_ fun h => hpp h.1
          rw [List.getElem?_append_left (List.getElem?_eq_some_iff.mp hj).1]
          exact hj
        · exact old hh hin
    -- the set grows
    refine q_ifPv (b := !decide (q.page ∈ there)) (fun σ' H' => σ' = [some (.ref c), some (.ref rq), some (.ref ou), some (.int q.at_), some (.str q.kind), some (.str q.path), some (.str q.page), some (.bl was), some (.ref mv), a, none] ∧
      Sat H' (ckCs K c s' z (thereF1 there q.page) (n + 1) ⟨dx, d, th, si, fr, l1 ++ y' :: l2, since2, free2⟩ ++ pt mv (.ins (He.ga K "Move") mdx (moveF (decide (q.page ∈ y.m.pgs)) (keptF z y.m q.page) mo mu mserved)) :: SetupP K s' frames z ts :: R) ∧ Tu H6 H')
      (et_is (et_test (ev_op (ev_var rfl) (ev_fld (ev_var rfl) (S7.get 0 rfl) cl (T.noat ("Checker", "own_there") (by decide)) rfl) (rv_niL (sq_of (S7.get 1 rfl)) rfl (flatS _)))) (by rw [inS])) ?_ ?_ ?_
    · intro hb H7 e7 nx hnx
      have hb : q.page ∉ there := by simpa using hb
      have S8 := S7.same e7
      have hthl : there.length ≤ 8 := nodup_len (l' := pagesL) hst.nd hst.pg
      refine s_app (S8.get 1 rfl) (ev_fld (ev_var rfl) (S8.get 0 rfl) cl (T.noat ("Checker", "own_there") (by decide)) rfl) (ev_var rfl) (by rw [List.length_map]; omega) fun H8 e8 => hnx _ _ ⟨rfl, ?_, (Ex.tu (e7.trans e8)).trans (Tu.upd ((S8.same e8).get 1 rfl))⟩
      have hth1 : thereF1 there q.page = there ++ [q.page] := if_neg hb
      rw [hth1, ← map_snoc]
      exact (S8.same e8).put 1 rfl
    · intro hb H7 e7 nx hnx
      have hb : q.page ∈ there := by simpa using hb
      have hth1 : thereF1 there q.page = there := if_pos hb
      exact hnx _ _ ⟨rfl, by rw [hth1]; exact S7.same e7, Ex.tu e7⟩
    rintro σ' H7 ⟨rfl, S8, t8⟩
    have hnd1 := thereF1_nd (page := q.page) hst.nd
    have hpg1 := thereF1_pg (page := q.page) hst.pg hst.qok.page
    have hou8 : H7 ou = some (.tup (out.map V.str)) := t8 _ _ (t7 _ _ (t6 _ _ (t5 _ _ hou)))
    have hO2 := hst.out
    -- the pages that leave
    refine q_forT (ev_var rfl) (st_of hou8) (fun i σ' H' => (∃ a, σ' = [some (.ref c), some (.ref rq), some (.ref ou), some (.int q.at_), some (.str q.kind), some (.str q.path), some (.str q.page), some (.bl was), some (.ref mv), a, none]) ∧
      Sat H' (ckCs K c s' z ((thereF1 there q.page).filter fun p => decide (p ∉ out.take i)) (n + 1) ⟨dx, d, th, si, fr, l1 ++ y' :: l2, since2, free2⟩ ++ pt mv (.ins (He.ga K "Move") mdx (moveF (decide (q.page ∈ y.m.pgs)) (keptF z y.m q.page) mo mu mserved)) :: SetupP K s' frames z ts :: R) ∧ Tu H7 H')
      (fun H8 e8 => ⟨⟨_, rfl⟩, ?_, Ex.tu e8⟩) (fun i σ' H' _ p => st_of (p.2.2 _ _ hou8)) ?_ ?_
    · have : ((thereF1 there q.page).filter fun p => decide (p ∉ out.take 0)) = thereF1 there q.page := List.filter_eq_self.mpr fun p _ => by simp
      rw [this]
      exact S8.same e8
    · rintro i x σ' H' hx ⟨⟨a, rfl⟩, p1, p2⟩
      rw [List.getElem?_map] at hx
      obtain ⟨nm, hnm, rfl⟩ := Option.map_eq_some_iff.mp hx
      have hnmo := List.mem_of_getElem? hnm
      have htk : out.take (i + 1) = out.take i ++ [nm] := by rw [List.take_add_one, hnm]; rfl
      have hni : nm ∉ out.take i := fun hm => by
        obtain ⟨j, hj⟩ := List.mem_iff_getElem?.mp hm
        rw [List.getElem?_take] at hj
        split at hj
        · have := nd_ix hO2.nodup hj hnm
          omega
        · cases hj
      have hin : nm ∈ (thereF1 there q.page).filter fun p => decide (p ∉ out.take i) := List.mem_filter.mpr ⟨hO2.sub nm hnmo, decide_eq_true hni⟩
      rw [htk, filter_snoc]
      have hndi : ((thereF1 there q.page).filter fun p => decide (p ∉ out.take i)).Nodup := hnd1.sublist List.filter_sublist
      generalize (thereF1 there q.page).filter (fun p => decide (p ∉ out.take i)) = thi at p1 hin hndi ⊢
      refine q_when (b := false) (et_is (et_test (ev_op (ev_var rfl) (ev_fld (ev_var rfl) (p1.get 0 rfl) cl (T.noat ("Checker", "own_there") (by decide)) rfl) (rv_niL (sq_of (p1.get 1 rfl)) rfl (flatS _)))) (by rw [inS, decide_eq_true hin]; rfl)) (fun h => nomatch h) fun _ H8 e8 => ?_
      refine q_when (b := false) (et_is (et_test (ev_neTT (xs := holdersF (reqMs z ms q) nm) (ys := []) (holdE _ _ _ _ _ _ nm 9 (p1.same e8) rfl rfl) (ew_new (eu_tup ea_nil (Nat.zero_le _))) (holders_okP hpaths' nm) (fun x hx => nomatch hx))) (by rw [decide_eq_true (holders_nil.mpr (hO2.free nm hnmo))]; rfl)) (fun h => nomatch h) fun _ H9 e9 => ?_
      have S9 := p1.same (e8.trans e9)
      refine ⟨_, rfl, c, _, dx, _, .ref th, rfl, S9.get 0 rfl, cl, T.noat ("Checker", "own_there") (by decide), rfl, .inl ⟨rfl, _, sq_of (S9.get 1 rfl)⟩, _, rfl, th, thi, nm, rfl, rfl, S9.get 1 rfl, hin, ⟨_, rfl⟩, ?_, (p2.trans (Ex.tu (e8.trans e9))).trans (Tu.upd (S9.get 1 rfl))⟩
      rw [hndi.erase_eq_filter]
      exact S9.put 1 rfl
    rintro σ' H8 ⟨⟨a, rfl⟩, S9, t9⟩
    rw [List.length_map, List.take_length] at S9
    have S9 : Sat H8 (ckCs K c s' z (thereF there q.page out) (n + 1) ⟨dx, d, th, si, fr, l1 ++ y' :: l2, since2, free2⟩ ++ pt mv (.ins (He.ga K "Move") mdx (moveF (decide (q.page ∈ y.m.pgs)) (keptF z y.m q.page) mo mu mserved)) :: SetupP K s' frames z ts :: R) := S9
    have hthl : (thereF there q.page out).length ≤ 8 := Nat.le_trans (List.length_filter_le _ _) (nodup_len (l' := pagesL) hnd1 hpg1)
    have hfit : ((thereF there q.page out).map (szOf z)).sum ≤ frames := hO2.fit
    have hset : ∀ H9, Ex H8 H9 → ∃ sdx su sszs sxs, SetupV K H9 s' sdx su sszs frames z sxs ts := fun H9 e9 => ((S9.same e9).pull 7 rfl).setupV
    obtain ⟨sdx, su, sszs, sxs, hV⟩ := hset H8 (Ex.refl _)
    obtain ⟨sr, stk, slate, hsi⟩ := hV.ins
    refine q_asg (v := .int ((thereF there q.page out).map (szOf z)).sum) (ev_sum ?_) fun H9 e9 => ?_
    · have e : ((thereF there q.page out).map (szOf z)).map V.int = given ((thereF there q.page out).map V.str).length (fun _ => true) (fun i => V.int (szOf z ((thereF there q.page out).getD i ""))) := by
        rw [given_all, List.length_map, range_map_get (thereF there q.page out) "" (fun e => V.int (szOf z e)), List.map_map]
        rfl
      rw [e]
      refine el_lcW _ _ (wi_list (ev_fld (ev_var rfl) (S9.get 0 rfl) cl (T.noat ("Checker", "own_there") (by decide)) rfl) (sq_of (S9.get 1 rfl))) walk_list (by rw [List.length_map]; omega) (fun H9 e9 => sq_of (e9 _ _ (S9.get 1 rfl))) fun i H9 x H10 hi e9 y2 R2 hR => ?_
      obtain ⟨rfl, hxi⟩ := y2
      rw [List.getElem?_map] at hxi
      obtain ⟨nm, hnm, rfl⟩ := Option.map_eq_some_iff.mp hxi
      have hg : (thereF there q.page out).getD i "" = nm := by rw [List.getD, hnm]; rfl
      rw [hg] at hR
      exact hR _ _ (Ex.refl _) rfl et_yes fun _ => ev_meth (ev_fld (ev_var rfl) (e9 _ _ (S9.get 0 rfl)) cl (T.noat ("Checker", "own_setup") (by decide)) rfl) (e9 _ _ hsi) rfl (ea_cons (ev_var rfl) ea_nil) fun H11 e11 Q q' => ⟨s', sdx, su, sszs, frames, z, sxs, ts, nm, rfl, hV.ex (e9.trans e11), q'⟩
    refine s_ret (v := .non) (ev_if (b := false) (et_is (et_test (ev_op (ev_var rfl) (ev_prop (ev_fld (ev_var rfl) (e9 _ _ (S9.get 0 rfl)) cl (T.noat ("Checker", "own_setup") (by decide)) rfl) (e9 _ _ hsi) fun H11 e11 Q q' => ⟨s', sdx, su, sszs, frames, z, sxs, ts, rfl, hV.ex (e9.trans e11), q'⟩) rv_I0)) (decide_eq_false (by omega))) (fun h => nomatch h) fun _ => ev_c) fun H10 e10 => ?_
    have S10 := S9.same (e9.trans e10)
    refine k H10 (CkP.open_.mpr ⟨⟨dx, d, th, si, fr, l1 ++ y' :: l2, since2, free2⟩, ⟨hms', hsince2, ?_, hsl2, ?_⟩, S10.sub (List.Sublist.append (List.Sublist.refl _) (List.sublist_cons_self _ _))⟩) (((((t5.trans t6).trans t7).trans t8).trans t9).trans (Ex.tu (e9.trans e10)))
    · intro pg hpg hnh
      exact hfree2 pg ((List.mem_filter.mp hpg).1) hnh
    · show (free2.length : Int) ≤ 100 * (n + 1)
      rw [List.length_append, List.length_singleton] at hf3
      omega
end
end N32
set_option Elab.async false
set_option linter.all false
set_option maxRecDepth 100000
set_option maxHeartbeats 4000000

namespace N32
open PySem PySem.Spec PyProof.Rows L2 Evl
/-! ### the leaves of a setup, their machines -/
structure LfOk (ts : List (TnS (Kid 2))) (lf : List (Str × (Str × Int × Nat))) : Prop where
  paths : leavesS (leavesK 2) ts "" = lf.map (·.1)
  nodup : (lf.map (·.1)).Nodup
  ok : ∀ x ∈ lf, x.1 ∈ pathsL ∧ FindS (FindT 2) ts (Txt.split x.1 "/") x.2 ∧ 0 ≤ x.2.2.1 ∧ x.2.2.1 ≤ 8 ∧ x.2.2.2 < 6
def m0 (x : Str × (Str × Int × Nat)) : M := ⟨x.2.2.1, x.2.2.2, [], .none, 0, 0, 0⟩
def ms0 (lf : List (Str × (Str × Int × Nat))) : Ms := lf.map fun x => (x.1, m0 x)
section
variable {K : PySem.W.Frag} {σ : L2.St} {H : Hp} {D : Ends} {tz : TS} {ta tb td ty : TE} {t : TA} {s : Addr} {frames room : Int} {z : Szs} {ts : List (TnS (Kid 2))} {R : List HP} {lf : List (Str × (Str × Int × Nat))}
theorem q_found {i j l : Nat} {x : Str × (Str × Int × Nat)} (hs : Ev ta σ H (.ref s)) (hp : Ev tb σ H (.str x.1)) (S : Sat H (SetupP K s frames z ts :: R)) (h8 : ts.length ≤ 8) (hL : LfOk ts lf) (hx : x ∈ lf)
    (k : ∀ H1, Ex H H1 → tz D (((σ.set i (some (.str x.2.1))).set j (some (.int x.2.2.1))).set l (some (.ref (fR K x.2.2.2)))) H1) :
    tSeq (tAsg (tMeth (He.ga K "Setup") "found" (sp_Setup_found K) [] C8.E0 ta (tCons tb tNil)) (gTup K 3 (fun xs σ H Q => ∃ x r, xs = x :: r ∧ gName i x σ H fun σ H => ∃ x r', r = x :: r' ∧ gName j x σ H fun σ H => ∃ x r'', r' = x :: r'' ∧ gName l x σ H fun σ H => r'' = [] ∧ Q σ H))) tz D σ H := by
  obtain ⟨dx, u, szs, xs, hV⟩ := S.setupV
  obtain ⟨r, tk, late, hi⟩ := hV.ins
  obtain ⟨h1, h2, _⟩ := hL.ok x hx
  obtain ⟨p1, p2, _⟩ := pathsL_txt _ h1
  refine hs H (Ex.refl _) _ fun H1 e1 => ⟨s, dx, _, rfl, e1 _ _ hi, rfl, hp H1 e1 _ fun H2 e2 => ⟨s, dx, u, szs, frames, z, xs, ts, x.1, x.2, rfl, hV.ex (e1.trans e2), h8, by omega, by omega, h2, fun a H3 e3 ha => ?_⟩⟩
  exact ⟨a, _, rfl, st_of ha, rfl, _, _, rfl, _, _, rfl, _, _, rfl, rfl, k H3 ((e1.trans e2).trans e3)⟩
/-- single[path] = Alone(share, rule, sizes = setup.sizes()) -/
theorem s_addM {d : Addr} {mx : List MY} {x : Str × (Str × Int × Nat)} {gV : List V → List V → List V} (hgV : gV = fun vs zs => vs ++ zs ++ [.int 0, .int 0]) (S : Sat H (pt d (.dK (mdK mx)) :: al (machPs K z mx) :: SetupP K s frames z ts :: R)) (hz : SzOk z) (hL : LfOk ts lf) (hx : x ∈ lf) (hnx : x.1 ∉ mx.map (·.path))
    (hA : ∀ H1, Ex H H1 → EvA t σ H1 [.int x.2.2.1, .ref (fR K x.2.2.2)]) (hs : ∀ H1, Ex H H1 → Ev ta σ H1 (.ref s)) (hd : ∀ H1, Sat H1 (pt d (.dK (mdK mx)) :: al (machPs K z mx) :: SetupP K s frames z ts :: R) → Ev td σ H1 (.ref d)) (hy : ∀ H1, Ev ty σ H1 (.str x.1)) (hl : mx.length ≤ 1000)
    (k : ∀ a H', Sat H' (pt d (.dK (mdK (mx ++ [⟨x.1, a, m0 x⟩]))) :: al (machPs K z (mx ++ [⟨x.1, a, m0 x⟩])) :: SetupP K s frames z ts :: R) → Tu H H' → D.nx σ H') :
    sDPut td ty (tMakeK (He.ga K "Alone") 2 1 (sp_Alone_init K) gV C8.E0 t (tCons (tMeth (He.ga K "Setup") "sizes" (sp_Setup_sizes K) [] C8.E0 ta tNil) tNil)) D σ H := by
  obtain ⟨h1, h2, h3, h4, h5⟩ := hL.ok x hx
  refine hA H (Ex.refl _) H (Ex.refl _) _ fun H1 e1 => ?_
  obtain ⟨dx, u, szs, xs, hV⟩ := ((S.same e1).pull 2 rfl).setupV
  refine hs H1 e1 H1 (Ex.refl _) _ fun H2 e2 => ?_
  obtain ⟨r, tk, late, hi⟩ := (hV.ex e2).ins
  refine ⟨s, dx, _, rfl, hi, rfl, s, dx, u, szs, frames, z, xs, ts, rfl, hV.ex e2, fun p H3 hp e3 hp3 => ⟨rfl, rfl, fun a dxa ha hda hne => ?_⟩⟩
  have e02 := e1.trans e2
  have S3 := (S.same e02).grow hp e3 hp3
  have S4 := S3.made (C := He.ga K "Alone") ha hda hne
  have t4 : Tu H (upd (upd H3 dxa (.own a)) a (.ins (He.ga K "Alone") dxa [])) := (Ex.tu (e02.trans e3)).trans ((Tu.new hda).trans (Tu.new (by rw [upd_ne hne.symm]; exact ha)))
  refine ⟨a, dxa, p, z, x.2.2.1, x.2.2.2, _, by rw [hgV]; rfl, S4, hz, h3, h4, h5, fun H5 S5 t5 => ⟨rfl, ?_⟩⟩
  have S6 : Sat H5 (MachP K a z (m0 x) :: pt d (.dK (mdK mx)) :: al (machPs K z mx) :: SetupP K s frames z ts :: R) := S5.sub ((List.sublist_cons_self _ _).cons_cons _)
  refine hd H5 S6.tail H5 (Ex.refl _) _ fun H6 e6 => hy H6 H6 (Ex.refl _) _ fun H7 e7 => ?_
  have S7 := S6.same (e6.trans e7)
  refine ⟨d, _, rfl, DPut.k (k := .inr x.1) (S7.get 1 rfl) (sz_lt (by rw [mdK_len]; omega)), k a _ (ms_add S7 hnx) (((t4.trans t5).trans (Ex.tu (e6.trans e7))).trans (Tu.upd (S7.get 1 rfl)))⟩
theorem ms0_take {i : Nat} {x : Str × (Str × Int × Nat)} (h : lf[i]? = some x) : ms0 (lf.take (i + 1)) = ms0 (lf.take i) ++ [(x.1, m0 x)] := by
  unfold ms0
  rw [List.take_add_one, h, List.map_append]
  rfl
theorem ms0_fresh {i : Nat} {x : Str × (Str × Int × Nat)} {mx : List MY} (hn : (lf.map (·.1)).Nodup) (h : lf[i]? = some x) (hm : msOf mx = ms0 (lf.take i)) : x.1 ∉ mx.map (·.path) := by
  rw [← msOf_paths, hm]
  unfold ms0
  rw [List.map_map]
  intro hx
  obtain ⟨w, hw, e⟩ := List.mem_map.mp hx
  obtain ⟨j, hj⟩ := List.mem_iff_getElem?.mp hw
  rw [List.getElem?_take] at hj
  split at hj
  · have a1 : (lf.map (·.1))[j]? = some x.1 := by rw [List.getElem?_map, hj]; exact congrArg some e
    have a2 : (lf.map (·.1))[i]? = some x.1 := by rw [List.getElem?_map, h]; rfl
    have := nd_ix hn a1 a2
    omega
  · cases hj
theorem LfOk.len (hL : LfOk ts lf) : lf.length ≤ 21 := by
  have h1 := nodup_len (l' := pathsL) hL.nodup fun p hp => by
    obtain ⟨x, hx, rfl⟩ := List.mem_map.mp hp
    exact (hL.ok x hx).1
  rw [List.length_map] at h1
  exact Nat.le_trans h1 (by decide +kernel)
end
theorem msOf_len {mx : List MY} {ms : Ms} (h : msOf mx = ms) : mx.length = ms.length := by rw [← h]; exact (List.length_map _).symm

section
variable {P : Program} {w : World} {K : PySem.W.Frag} {mg : Str → Option Value} {base : Heap}
abbrev n_Checker_init : List Str := ["self", "setup", "path", "name", "share", "rule"]
theorem sc_Checker_init : FnScope n_Checker_init ["self", "setup"] (defScope s_Checker_init) := C8.fnScope_by (by decide +kernel)
def sp_Checker_init (K : PySem.W.Frag) : Sp := fun vs H Q _ => ∃ (c dx s : Addr) (z : Szs) (frames room : Int) (ts : List (TnS (Kid 2))) (lf : List (Str × (Str × Int × Nat))) (R : List HP), vs = [.ref c, .ref s] ∧ Sat H (pt c (.ins (He.ga K "Checker") dx []) :: SetupP K s frames z ts :: R) ∧ SzOk z ∧ TreeS (TreeOk 2) topN room ts ∧ LfOk ts lf ∧
  ∀ H', Sat H' (CkP K c s z (ms0 lf) [] 0 :: SetupP K s frames z ts :: R) → Tu H H' → Q .non H'
theorem ok_Checker_init  (T : Ctx K mg) : C8.Mak P w K mg base 17 "Checker" (He.ga K "Checker") (sp_Checker_init K) [] := by
  refine mak_of T.f_Checker_init (T.mks "Checker" (by decide)) (T.glo _ (by decide)) (N := n_Checker_init) sc_Checker_init (fun _ _ _ _ _ _ us hl => match us, hl with | [_, _], _ => rfl) (fun vs H Q E h => ?len) (fun cdv A outer s H vs Q E hr h => ?body)
  case len =>
    obtain ⟨_, _, _, _, _, _, _, _, _, rfl, _⟩ := h
    rfl
  case body =>
    obtain ⟨c, dx, s', z, frames, room, ts, lf, R, rfl, S, hz, hT, hL, k⟩ := h
    refine ⟨_, (pss_cons (ps_fldK (K := K) (pv 0) (pv 1)) (pss_cons (ps_fldK (K := K) (pv 0) pe_dnewK) (pss_cons (ps_for PassesOwn.never (by rfl) (pi_listK (K := K) (C8.pe_mt0 (ok_Setup_leaves T) hr (by decide) (pv 1))) (pg_name (i := 2) sc_Checker_init.nd rfl (Or.inl rfl)) (pss_cons (ps_asg (C8.pe_mt (ok_Setup_found T) hr (by decide) (pv 1) (pa_cons (pv 2) pa_nil)) (pg_tupK (K := K) (n := 3) (by rfl) (pgs_cons (pg_name (i := 3) sc_Checker_init.nd rfl (Or.inl rfl)) (pgs_cons (pg_name (i := 4) sc_Checker_init.nd rfl (Or.inl rfl)) (pgs_cons (pg_name (i := 5) sc_Checker_init.nd rfl (Or.inl rfl)) pgs_nil))))) (pss_one (ps_dput (hu_of hr) (pe_fldK (K := K) (pv 0)) (pv 2) (pe_mkK (ok_Alone_init T) hr (by decide) (by rfl) (pa_cons (pv 4) (pa_cons (pv 5) pa_nil)) (pk_cons (C8.pe_mt0 (ok_Setup_sizes T) hr (by decide) (pv 1)) pk_nil)) rfl)))) (pss_cons (ps_fldK (K := K) (pv 0) (pe_lst pa_nil)) (pss_cons (ps_fldK (K := K) (pv 0) pe_dnewT) (pss_cons (ps_fldK (K := K) (pv 0) pe_dnewK) (pss_one (ps_fldK (K := K) (pv 0) pe_int)))))))), ?_⟩
    have cl := T.cls "Checker" (by decide)
    refine q_fldS (ev_var rfl) (ev_var rfl) S cl (T.noat ("Checker", "own_setup") (by decide)) lt1000 fun H1 S1 t1 => ?_
    refine q_fldNew eo_newK (ev_var rfl) S1 cl (T.noat ("Checker", "own_machines") (by decide)) lt1000 (fun z => z) fun d H2 S2 t2 => ?_
    have S2 : Sat H2 (pt c (.ins (He.ga K "Checker") dx [("own_setup", .ref s'), ("own_machines", .ref d)]) :: pt d (.dK []) :: SetupP K s' frames z ts :: R) := S2
    have S2b : Sat H2 (pt d (.dK (mdK [])) :: al (machPs K z []) :: SetupP K s' frames z ts :: pt c (.ins (He.ga K "Checker") dx [("own_setup", .ref s'), ("own_machines", .ref d)]) :: R) :=
      Sat.swap ((Sat.al (l' := [])).mpr ((S2.pull 1 rfl).perm (.cons _ (.swap _ _ _))))
    obtain ⟨sdx, su, sszs, sxs, hV⟩ := ((S2b.pull 2 rfl)).setupV
    obtain ⟨sr, stk, slate, hsi⟩ := hV.ins
    refine q_forNLn (xs := (lf.map (·.1)).map V.str) (el_meth (ev_var rfl) hsi rfl ea_nil fun H3 e3 Q q => ⟨s', sdx, su, sszs, frames, room, z, sxs, ts, rfl, hV.ex e3, hT, by rw [hL.paths]; exact q⟩)
      (fun p i σ' H' => (∃ a1 a2 a3 a4, σ' = [some (.ref c), some (.ref s'), a1, a2, a3, a4]) ∧ Tu H2 H' ∧ ∃ mx, msOf mx = ms0 (lf.take i) ∧ Sat H' (pt d (.dK (mdK mx)) :: al (machPs K z mx) :: SetupP K s' frames z ts :: pt c (.ins (He.ga K "Checker") dx [("own_setup", .ref s'), ("own_machines", .ref d)]) :: pt p (.lst ((lf.map (·.1)).map V.str)) :: R))
      (fun p H3 hp e3 h3 => ⟨⟨_, _, _, _, rfl⟩, Ex.tu e3, [], rfl, (S2b.grow hp e3 h3).perm ((List.perm_middle (l₁ := [_, _, _, _])).symm)⟩) (fun p i σ' H' _ q => sq_of (let ⟨_, _, mx, _, S⟩ := q; S.get 4 rfl)) ?_ ?_
    · rintro p i x σ' H' hx ⟨⟨a1, a2, a3, a4, rfl⟩, p1, mx, p2, p3⟩
      rw [List.getElem?_map, List.getElem?_map] at hx
      obtain ⟨pt_, hpt, rfl⟩ := Option.map_eq_some_iff.mp hx
      obtain ⟨x, hxl, rfl⟩ := Option.map_eq_some_iff.mp hpt
      have hxm := List.mem_of_getElem? hxl
      have hxlen : mx.length ≤ 1000 := by
        have h1 := msOf_len p2
        have h2 : (ms0 (lf.take i)).length = (lf.take i).length := List.length_map _
        have h3 := hL.len
        rw [List.length_take] at h2
        omega
      refine q_found (x := x) (ev_var rfl) (ev_var rfl) (p3.pull 2 rfl) hT.len hL hxm fun H4 e4 => ?_
      refine s_addM (x := x) rfl (p3.same e4) hz hL hxm (ms0_fresh hL.nodup hxl p2) (fun H5 e5 => ea_cons (ev_var rfl) (ea_cons (ev_var rfl) ea_nil)) (fun H5 e5 => ev_var rfl) (fun H5 S5 => ev_fld (ev_var rfl) (S5.get 3 rfl) cl (T.noat ("Checker", "own_machines") (by decide)) rfl) (fun H5 => ev_var rfl) hxlen fun a H5 S5 t5 => ?_
      refine ⟨⟨_, _, _, _, rfl⟩, (p1.trans (Ex.tu e4)).trans t5, _, ?_, S5⟩
      rw [ms0_take hxl, ← p2]
      unfold msOf
      rw [List.map_append]
      rfl
    · rintro p σ' H3 ⟨⟨a1, a2, a3, a4, rfl⟩, t3, mx, hmx, S3⟩
      rw [List.length_map, List.length_map, List.take_length] at hmx
      have S4 : Sat H3 (pt c (.ins (He.ga K "Checker") dx [("own_setup", .ref s'), ("own_machines", .ref d)]) :: pt d (.dK (mdK mx)) :: al (machPs K z mx) :: SetupP K s' frames z ts :: R) := (S3.pull 3 rfl).sub (((((List.sublist_cons_self _ _).cons_cons _).cons_cons _).cons_cons _).cons_cons _)
      refine q_fldNew eo_nil2 (ev_var rfl) S4 cl (T.noat ("Checker", "own_there") (by decide)) lt1000 (fun z => z) fun th H4 S4 t4 => ?_
      refine q_fldNew eo_newT (ev_var rfl) S4 cl (T.noat ("Checker", "own_since") (by decide)) lt1000 (fun z => z) fun si H5 S5 t5 => ?_
      refine q_fldNew eo_newK (ev_var rfl) S5 cl (T.noat ("Checker", "own_free") (by decide)) lt1000 (fun z => z) fun fr H6 S6 t6 => ?_
      refine s_fldS (y := .int 0) ev_c (ev_var rfl) S6 cl (T.noat ("Checker", "own_number") (by decide)) lt1000 fun H7 S7 t7 => ?_
      have S8 : Sat H7 (pt c (.ins (He.ga K "Checker") dx (ckF s' 0 ⟨dx, d, th, si, fr, mx, [], []⟩)) :: pt fr (.dK []) :: pt si (.dT []) :: pt th (.lst []) :: pt d (.dK (mdK mx)) :: al (machPs K z mx) :: SetupP K s' frames z ts :: R) := S7
      have S9 : Sat H7 (ckCs K c s' z [] 0 ⟨dx, d, th, si, fr, mx, [], []⟩ ++ SetupP K s' frames z ts :: R) := ((((S8.pull 1 rfl).pull 2 rfl).pull 3 rfl).pull 3 rfl)
      refine k H7 (CkP.open_.mpr ⟨⟨dx, d, th, si, fr, mx, [], []⟩, ⟨hmx, fun y hy pg hpg => ?_, fun pg hpg => by simp at hpg, by simp, by simp⟩, S9⟩) (((((((t1.trans t2).trans t3).trans t4).trans t5).trans t6).trans t7))
      have : (y.path, y.m) ∈ ms0 lf := by rw [← hmx]; exact List.mem_map.mpr ⟨y, hy, rfl⟩
      obtain ⟨x, _, ex⟩ := List.mem_map.mp this
      have : y.m = m0 x := (congrArg Prod.snd ex).symm
      rw [this] at hpg
      exact nomatch hpg
end
end N32
set_option Elab.async false
set_option linter.all false
set_option maxRecDepth 100000
set_option maxHeartbeats 4000000

namespace N32
open PySem PySem.Spec PyProof.Rows L2 Evl
/-! ### traces, outs, runs -/
structure OutsL (H : Hp) (os : List V) (outs : List (List Str)) : Prop where
  len : os.length = outs.length
  at_ : ∀ (i : Nat) (x : V) (o : List Str), os[i]? = some x → outs[i]? = some o → ∃ u, x = .ref u ∧ H u = some (.tup (o.map V.str))
theorem OutsL.tu {H H' : Hp} {os : List V} {outs : List (List Str)} (h : OutsL H os outs) (e : Tu H H') : OutsL H' os outs := ⟨h.len, fun i x o a b => let ⟨u, c, d⟩ := h.at_ i x o a b; ⟨u, c, e _ _ d⟩⟩
theorem OutsL.get {H : Hp} {os : List V} {outs : List (List Str)} (E : OutsL H os outs) {i : Nat} {x : V} (h : os[i]? = some x) : ∃ o u, outs[i]? = some o ∧ x = .ref u ∧ H u = some (.tup (o.map V.str)) := by
  have hi : i < outs.length := by rw [← E.len]; exact (List.getElem?_eq_some_iff.mp h).1
  obtain ⟨u, a, b⟩ := E.at_ i x _ h (List.getElem?_eq_getElem hi)
  exact ⟨outs[i], u, List.getElem?_eq_getElem hi, a, b⟩
structure TX where
  dx : Addr
  u : Addr
  xs : List V
def traceCs (K : PySem.W.Frag) (tr : Addr) (qs : List Req) (x : TX) : List HP := [pt tr (.ins (He.ga K "Trace") x.dx [("own_requests", .ref x.u)]), tp x.u x.xs, vp (fun H => ReqL H x.xs qs) (fun _ _ h e => h.tu e)]
def TraceP (K : PySem.W.Frag) (tr : Addr) (qs : List Req) : HP := ex fun x => al (traceCs K tr qs x)
theorem TraceP.open_ {K : PySem.W.Frag} {tr : Addr} {qs : List Req} {H : Hp} {R : List HP} : Sat H (TraceP K tr qs :: R) ↔ ∃ x, Sat H (traceCs K tr qs x ++ R) := by
  unfold TraceP
  rw [Sat.ex]
  exact exists_congr fun x => Sat.al
theorem Sat.traceC {K : PySem.W.Frag} {tr : Addr} {qs : List Req} {x : TX} {H : Hp} {R : List HP} (h : Sat H (traceCs K tr qs x ++ R)) : TraceV K H tr x.dx x.u x.xs qs := by
  have h2 : Sat H (N32.vp (fun H => ReqL H x.xs qs) (fun _ _ h e => h.tu e) :: R) := h.tail.tail
  exact ⟨h.get 0 rfl, h.getT 1 rfl, (Sat.vp.mp h2).1⟩
theorem Sat.traceV {K : PySem.W.Frag} {tr : Addr} {qs : List Req} {H : Hp} {R : List HP} (h : Sat H (TraceP K tr qs :: R)) : ∃ dx u xs, TraceV K H tr dx u xs qs := let ⟨_, h⟩ := TraceP.open_.mp h; ⟨_, _, _, h.traceC⟩
def OutsP (ol : Addr) (outs : List (List Str)) : HP := ex fun os : List V => al [pt ol (.lst os), vp (fun H => OutsL H os outs) (fun _ _ h e => h.tu e)]
theorem OutsP.open_ {ol : Addr} {outs : List (List Str)} {H : Hp} {R : List HP} : Sat H (OutsP ol outs :: R) ↔ ∃ os, OutsL H os outs ∧ Sat H (pt ol (.lst os) :: R) := by
  unfold OutsP
  rw [Sat.ex]
  refine exists_congr fun os => Sat.al.trans ?_
  show Sat H (pt ol (.lst os) :: N32.vp _ _ :: R) ↔ _
  constructor
  · intro h
    exact ⟨(Sat.vp.mp h.swap).1, (Sat.vp.mp h.swap).2⟩
  · rintro ⟨a, b⟩
    exact (Sat.vp.mpr ⟨a, b⟩).swap
/-- the machines, the set, before the i-th request -/
def msAt (z : Szs) (ms : Ms) (qs : List Req) (i : Nat) : Ms := (qs.take i).foldl (reqMs z) ms
def thAt (qs : List Req) (outs : List (List Str)) (i : Nat) : List Str := ((qs.zip outs).take i).foldl (fun th x => thereF th x.1.page x.2) []
theorem msAt_succ {z : Szs} {ms : Ms} {qs : List Req} {i : Nat} {q : Req} (h : qs[i]? = some q) : msAt z ms qs (i + 1) = reqMs z (msAt z ms qs i) q := by
  unfold msAt
  rw [List.take_add_one, h, List.foldl_append]
  rfl
theorem thAt_succ {qs : List Req} {outs : List (List Str)} {i : Nat} {q : Req} {o : List Str} (h : qs[i]? = some q) (h2 : outs[i]? = some o) : thAt qs outs (i + 1) = thereF (thAt qs outs i) q.page o := by
  unfold thAt
  rw [List.take_add_one, List.foldl_append]
  have : (qs.zip outs)[i]? = some (q, o) := by rw [List.getElem?_zip_eq_some]; exact ⟨h, h2⟩
  rw [this]
  rfl
structure RunOk (z : Szs) (frames : Int) (lf : List (Str × (Str × Int × Nat))) (qs : List Req) (outs : List (List Str)) : Prop where
  len : outs.length = qs.length
  short : qs.length ≤ 40
  step : ∀ i q o, qs[i]? = some q → outs[i]? = some o → StepOk z frames (msAt z (ms0 lf) qs i) (thAt qs outs i) q o
theorem walk_enum1 {K : PySem.W.Frag} {a : Addr} {xs : List V} : Walk (Ite1 K a) xs.length (fun H => SqL K H a xs) (YPair (fun i => some (.int ((i : Nat) + 1))) (fun i => xs[i]?)) := by
  refine ⟨fun i _ hi q => ⟨xs, xs[i], q, by simp [hi]⟩, fun _ q => ⟨xs, q, Nat.le_refl _⟩, fun i H v H' _ q y => ?_⟩
  obtain ⟨T, x, h1, h2, h3, h4⟩ := y
  exact ⟨T, .int ((i : Nat) + 1), x, h1, h2, h3, rfl, h4 xs q⟩
theorem pagesL_ok : ∀ x ∈ pagesL, PyData.strOk x = true := by decide +kernel
section
variable {K : PySem.W.Frag} {σ : L2.St} {H : Hp} {ta tb : TE}
theorem ev_lenOwn {C : Addr} {sp : Sp} {a dx : Addr} {fs : List (Str × V)} {n : Nat} (ha : Ev ta σ H (.ref a)) (ho : H a = some (.ins C dx fs)) (hn : n ≤ 100000) (hs : ∀ H1, Ex H H1 → ∀ Q : VK, RetV (.int (n : Int)) H1 Q → sp [.ref a] H1 Q C8.E0) :
    Ev (tCB (fun xs H Q => ∃ a dx fs, xs = [.ref a] ∧ H a = some (.ins C dx fs) ∧ sp [.ref a] H (fun v H' => ∃ n : Nat, v = .int n ∧ n ≤ sizeLine ∧ Q (.int n) H') C8.E0) (tCons ta tNil)) σ H (.int (n : Int)) := fun H1 e Q q =>
  ha H1 e _ fun H2 e2 => ⟨a, dx, fs, rfl, e2 _ _ (e _ _ ho), hs H2 (e.trans e2) _ fun H3 e3 => ⟨n, rfl, sz_of hn, q H3 (e2.trans e3)⟩⟩
end

section
variable {P : Program} {w : World} {K : PySem.W.Frag} {mg : Str → Option Value} {base : Heap}
abbrev n_check_outs : List Str := ["trace", "outs", "position", "out", "page"]
theorem sc_check_outs : FnScope n_check_outs ["trace", "outs"] (defScope s_check_outs) := C8.fnScope_by (by decide +kernel)
def sp_check_outs (K : PySem.W.Frag) : Sp := fun vs H Q _ => ∃ (tr ol dx u : Addr) (xs os : List V) (qs : List Req) (outs : List (List Str)), vs = [.ref tr, .ref ol] ∧ TraceV K H tr dx u xs qs ∧ H ol = some (.lst os) ∧ OutsL H os outs ∧ outs.length = qs.length ∧ qs.length ≤ 40 ∧ (∀ o ∈ outs, o.length ≤ 8 ∧ ∀ p ∈ o, p ∈ pagesL) ∧ RetV .non H Q
theorem ok_check_outs  (T : Ctx K mg) : C8.Cal P w K mg base 3 "check_outs" (sp_check_outs K) [] := by
  refine cal_of T.f_check_outs (T.glo _ (by decide)) (N := n_check_outs) sc_check_outs (fun _ _ _ _ _ _ us hl => match us, hl with | [_, _], _ => rfl) (fun vs H Q E h => ?len) (fun cdv A outer s H vs Q E hr h => ?body)
  case len =>
    obtain ⟨_, _, _, _, _, _, _, _, rfl, _⟩ := h
    rfl
  case body =>
    obtain ⟨tr, ol, dx, u, xs, os, qs, outs, rfl, hT, hol, hO, hlen, h40, hpg, k⟩ := h
    refine ⟨_, (pss_cons (ps_if (PW.pt (pw_or (pt_not (pt_val (pe_callB (call_isiF (K := K)) (by rfl) (T.free _ (by decide)) (by decide +kernel) (pa_cons (pv 1) (pa_cons (pe_bltn (v := .ty "list") (by rfl) (T.free _ (by decide)) (by decide +kernel) rfl) pa_nil))))) (pw_or1 (pt_cmpR op_ne (pe_callB (call_len_seqK (K := K)) (by rfl) (T.free _ (by decide)) (by decide +kernel) (pa_cons (pv 1) pa_nil)) (pe_callB (call_len_own (ok_Trace_len T) hr (by decide)) (by rfl) (T.free _ (by decide)) (by decide +kernel) (pa_cons (pv 0) pa_nil)) (by rfl))))) (pss_one ps_never) pss_nil) (pss_one (ps_for PassesOwn.never (by rfl) (pi_enumK (K := K) (by rfl) (T.free _ (by decide)) (pa_cons (pv 1) pa_nil)) (pg_tupK (K := K) (n := 2) (by rfl) (pgs_cons (pg_name (i := 2) sc_check_outs.nd rfl (Or.inl rfl)) (pgs_cons (pg_name (i := 3) sc_check_outs.nd rfl (Or.inl rfl)) pgs_nil))) (pss_one (ps_if (PW.pt (pw_or (pt_not (pt_val (pe_callB (call_isiF (K := K)) (by rfl) (T.free _ (by decide)) (by decide +kernel) (pa_cons (pv 3) (pa_cons (pe_bltn (v := .ty "tuple") (by rfl) (T.free _ (by decide)) (by decide +kernel) rfl) pa_nil))))) (pw_or1 (pt_not (pt_val (pe_callB (cr_allK (K := K) rfl) (by rfl) (T.free _ (by decide)) (by decide +kernel) (pa_cons (pe_lc (own := [("page", 4)]) (by rfl) sc_check_outs.nd (pi_tupK (K := K) (pv 3)) (blkOk_by (own := [("page", 4)]) (N := n_check_outs) (sc := defScope s_check_outs) (by decide +kernel)) (fun _ _ _ _ _ => pg_name (i := 4) sc_check_outs.nd rfl (Or.inl rfl)) (fun _ _ _ _ _ => by exact pts_nil) (fun _ _ _ _ _ => by exact (C8.pe_c (ok_is_page T) hr (by decide) (by rfl) (pa_cons (pv 4) pa_nil)))) pa_nil))))))) (pss_one ps_never) pss_nil))))), ?_⟩
    have hosl := hO.len
    refine q_when (b := false) (et_or (a := false) (b := false) (et_not (a := true) (et_B (ev_isi (ev_var rfl) (.ty "list") (fun _ e => ty_lst (e _ _ hol)) (kit_ty (by decide +kernel))))) fun _ => et_is (et_test (ev_op (ev_len (ev_var rfl) (sq_of hol)) (ev_lenOwn (n := qs.length) (ev_var rfl) hT.ins (by omega) fun H1 e1 Q q => ⟨tr, dx, u, xs, qs, rfl, hT.ex e1, q⟩) (rv_ne rfl))) ?_) (fun h => nomatch h) fun _ H1 e1 => ?_
    · rw [decide_eq_true (show V.int (os.length : Int) = V.int (qs.length : Int) by rw [hosl, hlen])]
      rfl
    refine ⟨_, rfl, ol, os, rfl, sq_of (e1 _ _ hol), for_it walk_enum (fun i σ' H' => Ex H H' ∧ ∃ (a b c : Option V), σ' = [some (.ref tr), some (.ref ol), a, b, c]) ⟨e1, _, _, _, rfl⟩ (fun i σ' H' _ p => sq_of (p.1 _ _ hol)) ?_ fun σ' H' p => k H' p.1⟩
    rintro i x σ' H' H3 hi ⟨p1, a, b, c, rfl⟩ ⟨t, x1, y, rfl, ht, rfl, ha, hb⟩
    cases ha
    obtain ⟨o, u2, ho, rfl, hu2⟩ := (hO.tu (Ex.tu p1)).get hb
    obtain ⟨hol8, hop⟩ := hpg o (List.mem_of_getElem? ho)
    have eT : Ex H' (upd H' t (.tup [.int (i : Nat), .ref u2])) := Ex.new ht
    have hu3 := eT _ _ hu2
    refine ⟨t, _, rfl, st_of upd_same, rfl, _, _, rfl, _, _, rfl, rfl, ?_⟩
    refine s_when (b := false) (et_or (a := false) (b := false) (et_not (a := true) (et_B (ev_isi (ev_var rfl) (.ty "tuple") (fun _ e => ty_tup (e _ _ hu3)) (kit_ty (by decide +kernel))))) fun _ => et_not (a := true) (et_B (ev_is (ev_all (bs := o.map fun _ => true) ?_) ?_))) (fun h => nomatch h) fun _ H4 e4 => ⟨(p1.trans eT).trans e4, _, _, _, rfl⟩
    · have e : (o.map fun _ => true).map V.bl = given (o.map V.str).length (fun _ => true) (fun _ => V.bl true) := by
        rw [given_all, List.length_map, List.map_map, List.map_const', List.length_range]
        exact List.map_const'
      rw [e]
      refine el_lcW _ _ (wi_tup (ev_var rfl) (st_of hu3)) walk_tup (by rw [List.length_map]; omega) (fun H5 e5 => st_of (e5 _ _ hu3)) fun j H5 v H6 hj e5 y R hR => ?_
      obtain ⟨rfl, hv⟩ := y
      rw [List.getElem?_map] at hv
      obtain ⟨nm, hnm, rfl⟩ := Option.map_eq_some_iff.mp hv
      exact hR _ _ (Ex.refl _) rfl et_yes fun _ => ev_callV (ea_cons (ev_var rfl) ea_nil) fun H7 _ Q q => ⟨nm, rfl, hop nm (List.mem_of_getElem? hnm), q⟩
    · rw [List.all_map]
      congr 1
      exact List.all_eq_true.mpr fun _ _ => rfl
end
section
variable {P : Program} {w : World} {K : PySem.W.Frag} {mg : Str → Option Value} {base : Heap}
abbrev n_check_paths : List Str := ["setup", "trace", "leaves", "path"]
theorem sc_check_paths : FnScope n_check_paths ["setup", "trace"] (defScope s_check_paths) := C8.fnScope_by (by decide +kernel)
def sp_check_paths (K : PySem.W.Frag) : Sp := fun vs H Q _ => ∃ (s tr sdx su szs dx u : Addr) (frames room : Int) (z : Szs) (sxs xs : List V) (ts : List (TnS (Kid 2))) (qs : List Req), vs = [.ref s, .ref tr] ∧ SetupV K H s sdx su szs frames z sxs ts ∧ TreeS (TreeOk 2) topN room ts ∧ TraceV K H tr dx u xs qs ∧ qs.length ≤ 40 ∧ (∀ q ∈ qs, q.path ∈ leavesS (leavesK 2) ts "") ∧ RetV .non H Q
theorem ok_check_paths  (T : Ctx K mg) : C8.Cal P w K mg base 17 "check_paths" (sp_check_paths K) [] := by
  refine cal_of T.f_check_paths (T.glo _ (by decide)) (N := n_check_paths) sc_check_paths (fun _ _ _ _ _ _ us hl => match us, hl with | [_, _], _ => rfl) (fun vs H Q E h => ?len) (fun cdv A outer s H vs Q E hr h => ?body)
  case len =>
    obtain ⟨_, _, _, _, _, _, _, _, _, _, _, _, _, _, rfl, _⟩ := h
    rfl
  case body =>
    obtain ⟨s', tr, sdx, su, szs, dx, u, frames, room, z, sxs, xs, ts, qs, rfl, hS, hTr, hT, h40, hin, k⟩ := h
    refine ⟨_, (pss_cons (ps_set (i := 2) sc_check_paths.nd rfl (Or.inr rfl) (C8.pe_mt0 (ok_Setup_leaves T) hr (by decide) (pv 0))) (pss_one (ps_if (pt_cmpR (op_neDK (K := K) hr.units) (pe_lc (own := [("path", 3)]) (by rfl) sc_check_paths.nd (pi_listK (K := K) (C8.pe_mt0 (ok_Trace_paths T) hr (by decide) (pv 1))) (blkOk_by (own := [("path", 3)]) (N := n_check_paths) (sc := defScope s_check_paths) (by decide +kernel)) (fun _ _ _ _ _ => pg_name (i := 3) sc_check_paths.nd rfl (Or.inl rfl)) (fun _ _ _ _ _ => by exact (pts_one (pt_cmpR (op_notIn_seqK (K := K)) (pv 3) (pv 2) (by rfl)))) (fun _ _ _ _ _ => by exact (pv 3))) (pe_lst pa_nil) (by rfl)) (pss_one ps_never) pss_nil))), ?_⟩
    obtain ⟨sr, stk, slate, hsi⟩ := hS.ins
    refine q_asgL (xs := (leavesS (leavesK 2) ts "").map V.str) (el_meth (ev_var rfl) hsi rfl ea_nil fun H3 e3 Q q => ⟨s', sdx, su, szs, frames, room, z, sxs, ts, rfl, hS.ex e3, hTr, q⟩) fun lp H1 hlp e1 h1 => ?_
    refine s_when (b := false) (et_is (et_test (ev_neLL (xs := []) (ys := []) (fun H2 e2 Q q => ?_) (el_lst ea_nil (Nat.zero_le _)) (fun x hx => nomatch hx) (fun x hx => nomatch hx))) rfl) (fun h => nomatch h) fun _ H2 e2 => k H2 (e1.trans e2)
    refine ⟨_, rfl, tr, dx, _, rfl, e2 _ _ (e1 _ _ hT.ins), rfl, tr, dx, u, xs, qs, rfl, hT.ex (e1.trans e2), h40, fun p ys H3 hp e3 h3 hys hyl => ⟨p, rfl, ⟨_, sq_of h3⟩, fun Dd hDd => ?_⟩⟩
    have hw := lc_it (tt := tTest (tOp (rIn K true) (tVar 3) (tVar 2))) (te := tVar 3) (g := gName 3) (vs := [3]) (σ := [some (V.ref s'), some (.ref tr), some (.ref lp), none]) (H1 := H3) (D := Dd) (Qd := fun H4 => Q (.ref Dd) H4) (walk_list (K := K) (a := p) (xs := ys.map V.str)) (fun i H4 => Ex H3 H4 ∧ H4 Dd = some (.lst []))
      ⟨Ex.new hDd, upd_same⟩ (fun i H4 _ q => sq_of (q.1 _ _ h3)) ?_ (fun H4 q' => q Dd H4 (fresh_back e3 hDd) (e3.trans q'.1) q'.2)
    · exact hw
    · rintro i x H4 H5 hi ⟨q1, q2⟩ ⟨rfl, hx⟩
      rw [List.getElem?_map] at hx
      obtain ⟨nm, hnm, rfl⟩ := Option.map_eq_some_iff.mp hx
      obtain ⟨q0, hq0, rfl⟩ := hys nm (List.mem_of_getElem? hnm)
      refine ⟨rfl, ?_⟩
      have hh : H5 lp = some (.lst ((leavesS (leavesK 2) ts "").map V.str)) := q1 _ _ (e3 _ _ (e2 _ _ h1))
      refine (et_is (b := false) (et_test (ev_op (σ := [some (V.ref s'), some (.ref tr), some (.ref lp), some (.str q0.path)]) (ta := tVar 3) (tb := tVar 2) (ev_var rfl) (ev_var rfl) (rv_niL (K := K) (sq_of hh) rfl (flatS _)))) (by rw [inS, decide_eq_true (hin q0 hq0)]; rfl)) H5 (Ex.refl _) _ fun H6 e6 => ⟨q1.trans e6, e6 _ _ q2⟩
end
section
variable {P : Program} {w : World} {K : PySem.W.Frag} {mg : Str → Option Value} {base : Heap}
abbrev n_check_run : List Str := ["setup", "trace", "outs", "checker", "number", "request", "word"]
theorem sc_check_run : FnScope n_check_run ["setup", "trace", "outs"] (defScope s_check_run) := C8.fnScope_by (by decide +kernel)
def sp_check_run (K : PySem.W.Frag) : Sp := fun vs H Q _ => ∃ (s tr ol : Addr) (z : Szs) (frames room : Int) (ts : List (TnS (Kid 2))) (lf : List (Str × (Str × Int × Nat))) (qs : List Req) (outs : List (List Str)) (R : List HP), vs = [.ref s, .ref tr, .ref ol] ∧ Sat H (SetupP K s frames z ts :: TraceP K tr qs :: OutsP ol outs :: R) ∧ SzOk z ∧ TreeS (TreeOk 2) topN room ts ∧ LfOk ts lf ∧ RunOk z frames lf qs outs ∧ (∀ o ∈ outs, o.length ≤ 8 ∧ ∀ p ∈ o, p ∈ pagesL) ∧ (∀ q ∈ qs, q.path ∈ leavesS (leavesK 2) ts "") ∧
  ∀ H', Sat H' (SetupP K s frames z ts :: TraceP K tr qs :: OutsP ol outs :: R) → Tu H H' → Q .non H'
theorem ok_check_run  (T : Ctx K mg) : C8.Cal P w K mg base 19 "check_run" (sp_check_run K) [] := by
  refine cal_of T.f_check_run (T.glo _ (by decide)) (N := n_check_run) sc_check_run (fun _ _ _ _ _ _ us hl => match us, hl with | [_, _, _], _ => rfl) (fun vs H Q E h => ?len) (fun cdv A outer s H vs Q E hr h => ?body)
  case len =>
    obtain ⟨_, _, _, _, _, _, _, _, _, _, _, rfl, _⟩ := h
    rfl
  case body =>
    obtain ⟨s', tr, ol, z, frames, room, ts, lf, qs, outs, R, rfl, S, hz, hTr, hL, hR, hop, hin, k⟩ := h
    refine ⟨_, (pss_cons (ps_expr (C8.pe_c (ok_check_setup T) hr (by decide) (by rfl) (pa_cons (pv 0) pa_nil))) (pss_cons (ps_expr (C8.pe_c (ok_check_trace T) hr (by decide) (by rfl) (pa_cons (pv 1) pa_nil))) (pss_cons (ps_expr (C8.pe_c (ok_check_paths T) hr (by decide) (by rfl) (pa_cons (pv 0) (pa_cons (pv 1) pa_nil)))) (pss_cons (ps_expr (C8.pe_c (ok_check_outs T) hr (by decide) (by rfl) (pa_cons (pv 1) (pa_cons (pv 2) pa_nil)))) (pss_cons (ps_set (i := 3) sc_check_run.nd rfl (Or.inl rfl) (C8.pe_mk (ok_Checker_init T) hr (by decide) (by rfl) (pa_cons (pv 0) pa_nil))) (pss_cons (ps_for PassesOwn.never (by rfl) (pi_enumS (by rfl) (T.free _ (by decide)) (pa_cons (C8.pe_mt0 (ok_Trace_rows T) hr (by decide) (pv 1)) pa_nil) (pk_cons pe_int pk_nil)) (pg_tupK (K := K) (n := 2) (by rfl) (pgs_cons (pg_name (i := 4) sc_check_run.nd rfl (Or.inl rfl)) (pgs_cons (pg_name (i := 5) sc_check_run.nd rfl (Or.inl rfl)) pgs_nil))) (pss_cons (ps_set (i := 6) sc_check_run.nd rfl (Or.inl rfl) (C8.pe_mt (ok_Checker_step T) hr (by decide) (pv 3) (pa_cons (pv 5) (pa_cons (pe_ix (ix_listK (K := K)) (pv 2) (pe_op op_sub (pv 4) pe_int) (fun _ _ => rfl)) pa_nil)))) (pss_one (ps_if (pt_cmpR op_notN (pv 6) pe_non (by rfl)) (pss_one (ps_ret (pe_tup (pa_cons (pv 4) (pa_cons (pv 6) pa_nil))))) pss_nil)))) (pss_one (ps_ret pe_non)))))))), ?_⟩
    obtain ⟨sdx, su, szs, sxs, hS⟩ := S.setupV
    obtain ⟨sr, stk, slate, hsi⟩ := hS.ins
    obtain ⟨dx, u, xs, hT⟩ := S.tail.traceV
    obtain ⟨os, hO, So⟩ := OutsP.open_.mp (S.pull 2 rfl)
    have hol := So.get 0 rfl
    refine q_drop (ev_callV (ea_cons (ev_var rfl) ea_nil) fun H1 e1 Q q => ⟨s', sdx, _, rfl, e1 _ _ hsi, q⟩) fun H1 e1 => ?_
    refine q_drop (ev_callV (ea_cons (ev_var rfl) ea_nil) fun H2 e2 Q q => ⟨tr, dx, _, rfl, e2 _ _ (e1 _ _ hT.ins), q⟩) fun H2 e2 => ?_
    have e02 := e1.trans e2
    refine q_drop (ev_callV (ea_cons (ev_var rfl) (ea_cons (ev_var rfl) ea_nil)) fun H3 e3 Q q => ⟨s', tr, sdx, su, szs, dx, u, frames, room, z, sxs, xs, ts, qs, rfl, hS.ex (e02.trans e3), hTr, hT.ex (e02.trans e3), hR.short, hin, q⟩) fun H3 e3 => ?_
    have e03 := e02.trans e3
    refine q_drop (ev_callV (ea_cons (ev_var rfl) (ea_cons (ev_var rfl) ea_nil)) fun H4 e4 Q q => ⟨tr, ol, dx, u, xs, os, qs, outs, rfl, hT.ex (e03.trans e4), e4 _ _ (e03 _ _ hol), hO.tu (Ex.tu (e03.trans e4)), hR.len, hR.short, hop, q⟩) fun H4 e4 => ?_
    have e04 := e03.trans e4
    have S4 := S.same e04
    refine q_asgD ?_
    refine ⟨_, rfl, fun c cdx hc hcd hne => ?_⟩
    have S5 := S4.made (C := He.ga K "Checker") hc hcd hne
    have t5 : Tu H (upd (upd H4 cdx (.own c)) c (.ins (He.ga K "Checker") cdx [])) := (Ex.tu e04).trans ((Tu.new hcd).trans (Tu.new (by rw [upd_ne hne.symm]; exact hc)))
    refine ⟨c, cdx, s', z, frames, room, ts, lf, _, rfl, S5, hz, hTr, hL, fun H6 S6 t6 => ⟨rfl, ?_⟩⟩
    obtain ⟨x6, S6t⟩ := TraceP.open_.mp (S6.pull 2 rfl)
    have hT6 := S6t.traceC
    -- the walk of the requests
    refine ⟨_, rfl, tr, x6.dx, _, rfl, hT6.ins, rfl, tr, x6.dx, x6.u, x6.xs, qs, rfl, hT6, fun rp H7 hrp e7 h7 => ?_⟩
    have hxl := hT6.reqs.len
    have h40 := hR.short
    refine ⟨rp, x6.xs, rfl, rfl, sq_of h7, for_it walk_enum1 (fun i σ' H' => (∃ a1 a2 a3, σ' = [some (.ref s'), some (.ref tr), some (.ref ol), some (.ref c), a1, a2, a3]) ∧ Tu H7 H' ∧ Sat H' (CkP K c s' z (msAt z (ms0 lf) qs i) (thAt qs outs i) (i : Int) :: SetupP K s' frames z ts :: pt rp (.lst x6.xs) :: TraceP K tr qs :: OutsP ol outs :: R))
      ⟨⟨_, _, _, rfl⟩, Tu.refl _, (S6.grow hrp e7 h7).perm (List.perm_middle (l₁ := [_, _])).symm⟩ (fun i σ' H' _ p => sq_of (p.2.2.get 2 rfl)) ?_ ?_⟩
    · rintro i x σ' H' H8 hi ⟨⟨a1, a2, a3, rfl⟩, p1, p2⟩ ⟨t, xa, y, rfl, ht, rfl, ha, hb⟩
      cases ha
      obtain ⟨q, hq, rq, rfl, hrq⟩ := ((hT6.reqs.ex e7).tu p1).get hb
      have hi2 : i < qs.length := (List.getElem?_eq_some_iff.mp hq).1
      obtain ⟨o, ho⟩ : ∃ o, outs[i]? = some o := ⟨_, List.getElem?_eq_getElem (by rw [hR.len]; exact hi2)⟩
      have hst := hR.step i q _ hq ho
      have eT : Ex H' (upd H' t (.tup [.int ((i : Nat) + 1), .ref rq])) := Ex.new ht
      have S8 := p2.same eT
      obtain ⟨os8, hO8, So8⟩ := OutsP.open_.mp (S8.pull 4 rfl)
      have ho8 : os8[i]? = some (os8.getD i .non) := by rw [List.getD, List.getElem?_eq_getElem (by rw [hO8.len, hR.len]; exact hi2)]; rfl
      obtain ⟨ou, hou, hou2⟩ := hO8.at_ i _ _ ho8 ho
      refine ⟨t, _, rfl, st_of upd_same, rfl, _, _, rfl, _, _, rfl, rfl, ?_⟩
      refine q_asgD ?_
      obtain ⟨cx, hcx, Sc⟩ := CkP.open_.mp S8
      refine ⟨_, rfl, c, cx.dx, _, rfl, Sc.get 0 rfl, rfl, _, rfl, ?_⟩
      refine (ev_op (ta := tVar 2) (tb := tOp (rI0 fun i j => .int (i - j)) (tVar 4) (tC (.int 1))) (ev_var rfl) (ev_op (ev_var rfl) ev_c rv_I0) (rv_ixL (K := K) (v := .ref ou) (sq_of (So8.get 0 rfl)) (at_of (j := i) (by omega) (by rw [ho8, hou])))) _ (Ex.refl _) _ fun H9 e9 => ?_
      refine ⟨c, s', rq, ou, z, _, _, (i : Int), frames, ts, q, o, _, rfl, S8.same e9, e9 _ _ (eT _ _ hrq), e9 _ _ hou2, hz, hst, by omega, by omega, fun H10 S10 t10 => ?_⟩
      refine s_when (b := false) (et_is (et_test (ev_op (ev_var rfl) ev_c rv_notN)) rfl) (fun h => nomatch h) fun _ H11 e11 => ⟨⟨_, _, _, rfl⟩, ((p1.trans (Ex.tu (eT.trans e9))).trans t10).trans (Ex.tu e11), ?_⟩
      rw [msAt_succ hq, thAt_succ hq ho]
      exact S10.same e11
    · rintro σ' H8 ⟨⟨a1, a2, a3, rfl⟩, p1, p2⟩
      refine k H8 (p2.tail.sub ((List.sublist_cons_self _ _).cons_cons _)) (((t5.trans t6).trans (Ex.tu e7)).trans p1)
end
section
variable {K : PySem.W.Frag} {σ : L2.St} {H : Hp} {D : Ends} {tz tu : TS} {ta tb : TE} {g : TG}
/-- for x, y in zip(new list, list) -/
theorem q_zipL {b : Addr} {xs ys : List V} (ha : EvL ta σ H xs) (hb : Ev tb σ H (.ref b)) (hy : H b = some (.lst ys)) (hl : ys.length = xs.length) (Pv : Addr → Nat → L2.St → Hp → Prop)
    (h0 : ∀ p H1, H p = none → Ex H H1 → H1 p = some (.lst xs) → Pv p 0 σ H1) (hG : ∀ p i σ' H', i ≤ xs.length → Pv p i σ' H' → H' p = some (.lst xs) ∧ H' b = some (.lst ys))
    (hs : ∀ p i x y H' σ' t, xs[i]? = some x → ys[i]? = some y → H' t = none → Pv p i σ' H' → g (.ref t) σ' (upd H' t (.tup [x, y])) fun σ2 H2 => tu { D with nx := Pv p (i + 1), ct := Pv p (i + 1), bk := tz D } σ2 H2)
    (hd : ∀ p σ' H', Pv p xs.length σ' H' → tz D σ' H') : tSeq (tFor (iZip K (tCons ta (tCons tb tNil))) g tu) tz D σ H :=
  ha H (Ex.refl _) _ fun p H1 hp e1 h1 => hb H1 e1 _ fun H2 e2 => ⟨p, b, xs, ys, rfl, sq_of (e2 _ _ h1), sq_of (e2 _ _ (e1 _ _ hy)),
    for_it (D := { D with nx := tz D }) (walk_zip (K := K) (a := p) (b := b) (xs := xs) (ys := ys) (n := xs.length) (by omega)) (Pv p) (h0 p H2 hp (e1.trans e2) (e2 _ _ h1)) (fun i σ' H' hi q => let ⟨a, c⟩ := hG p i σ' H' hi q; ⟨sq_of a, sq_of c⟩)
      (fun i v σ' H' H'' hi q y => by
        obtain ⟨t, x, y, rfl, ht, rfl, hx, hy⟩ := y
        exact hs p i x y H' σ' t hx hy ht q) (fun σ' H' q => hd p σ' H' q)⟩
end

section
variable {P : Program} {w : World} {K : PySem.W.Frag} {mg : Str → Option Value} {base : Heap}
abbrev n_papers_of : List Str := ["setup", "trace", "outs", "fault", "checker", "found", "request", "out"]
theorem sc_papers_of : FnScope n_papers_of ["setup", "trace", "outs"] (defScope s_papers_of) := C8.fnScope_by (by decide +kernel)
def sp_papers_of (K : PySem.W.Frag) : Sp := fun vs H Q _ => ∃ (s tr ol : Addr) (z : Szs) (frames room : Int) (ts : List (TnS (Kid 2))) (lf : List (Str × (Str × Int × Nat))) (qs : List Req) (outs : List (List Str)) (R : List HP), vs = [.ref s, .ref tr, .ref ol] ∧ Sat H (SetupP K s frames z ts :: TraceP K tr qs :: OutsP ol outs :: R) ∧ SzOk z ∧ TreeS (TreeOk 2) topN room ts ∧ LfOk ts lf ∧ RunOk z frames lf qs outs ∧ (∀ o ∈ outs, o.length ≤ 8 ∧ ∀ p ∈ o, p ∈ pagesL) ∧ (∀ q ∈ qs, q.path ∈ leavesS (leavesK 2) ts "") ∧
  ∀ f vs H', Sat H' (pt f (.lst vs) :: SetupP K s frames z ts :: TraceP K tr qs :: OutsP ol outs :: R) → Tu H H' → vs.length = qs.length → (∀ i q v, qs[i]? = some q → vs[i]? = some v → PaperV H' v (msAt z (ms0 lf) qs i) (thAt qs outs i) (i : Int) q.path q.page) → Q (.ref f) H'
theorem ok_papers_of  (T : Ctx K mg) : C8.Cal P w K mg base 20 "papers_of" (sp_papers_of K) [] := by
  refine cal_of T.f_papers_of (T.glo _ (by decide)) (N := n_papers_of) sc_papers_of (fun _ _ _ _ _ _ us hl => match us, hl with | [_, _, _], _ => rfl) (fun vs H Q E h => ?len) (fun cdv A outer s H vs Q E hr h => ?body)
  case len =>
    obtain ⟨_, _, _, _, _, _, _, _, _, _, _, rfl, _⟩ := h
    rfl
  case body =>
    obtain ⟨s', tr, ol, z, frames, room, ts, lf, qs, outs, R, rfl, S, hz, hTr, hL, hR, hop, hin, k⟩ := h
    refine ⟨_, (pss_cons (ps_set (i := 3) sc_papers_of.nd rfl (Or.inl rfl) (C8.pe_c (ok_check_run T) hr (by decide) (by rfl) (pa_cons (pv 0) (pa_cons (pv 1) (pa_cons (pv 2) pa_nil))))) (pss_cons (ps_if (pt_cmpR op_notN (pv 3) pe_non (by rfl)) (pss_one ps_never) pss_nil) (pss_cons (ps_par (i := 4) (j := 5) (by rfl) sc_papers_of.nd rfl rfl (by decide) rfl rfl (pa_cons (C8.pe_mk (ok_Checker_init T) hr (by decide) (by rfl) (pa_cons (pv 0) pa_nil)) (pa_cons (pe_lst pa_nil) pa_nil)) (by rfl)) (pss_cons (ps_for PassesOwn.never (by rfl) (pi_zipK (K := K) (by rfl) (T.free _ (by decide)) (pa_cons (C8.pe_mt0 (ok_Trace_rows T) hr (by decide) (pv 1)) (pa_cons (pv 2) pa_nil))) (pg_tupK (K := K) (n := 2) (by rfl) (pgs_cons (pg_name (i := 6) sc_papers_of.nd rfl (Or.inl rfl)) (pgs_cons (pg_name (i := 7) sc_papers_of.nd rfl (Or.inl rfl)) pgs_nil))) (pss_cons (ps_expr (pe_bmK (K := K) PySem.F.plainAttrs_list PySem.F.slot_list_append PySem.F.type_list_append mt_append (pv 5) (pa_cons (C8.pe_mt (ok_Checker_paper T) hr (by decide) (pv 4) (pa_cons (pe_ix (ix_tupK (K := K)) (pv 6) pe_int (fun _ _ => rfl)) (pa_cons (pe_ix (ix_tupK (K := K)) (pv 6) pe_int (fun _ _ => rfl)) pa_nil))) pa_nil))) (pss_one (ps_expr (C8.pe_mt (ok_Checker_step T) hr (by decide) (pv 4) (pa_cons (pv 6) (pa_cons (pv 7) pa_nil))))))) (pss_one (ps_ret (pv 5))))))), ?_⟩
    refine q_asgD ?_
    refine ⟨_, rfl, _, rfl, _, rfl, s', tr, ol, z, frames, room, ts, lf, qs, outs, R, rfl, S, hz, hTr, hL, hR, hop, hin, fun H1 S1 t1 => ?_⟩
    refine q_when (b := false) (et_is (et_test (ev_op (ev_var rfl) ev_c rv_notN)) rfl) (fun h => nomatch h) fun _ H2 e2 => ?_
    have S2 := S1.same e2
    refine ⟨_, rfl, fun c cdx hc hcd hne => ?_⟩
    have S5 := S2.made (C := He.ga K "Checker") hc hcd hne
    have t5 : Tu H (upd (upd H2 cdx (.own c)) c (.ins (He.ga K "Checker") cdx [])) := (t1.trans (Ex.tu e2)).trans ((Tu.new hcd).trans (Tu.new (by rw [upd_ne hne.symm]; exact hc)))
    refine ⟨c, cdx, s', z, frames, room, ts, lf, _, rfl, S5, hz, hTr, hL, fun H6 S6 t6 => ⟨rfl, Nat.zero_le _, fun f hf => ⟨_, _, rfl, ?_⟩⟩⟩
    have S6b := S6.new (o := .lst []) hf
    have t6b : Tu H (upd H6 f (.lst [])) := (t5.trans t6).trans (Tu.new hf)
    generalize upd H6 f (.lst []) = H6b at S6b t6b
    obtain ⟨x6, S6t⟩ := TraceP.open_.mp (S6b.pull 3 rfl)
    have hT6 := S6t.traceC
    have hxl := hT6.reqs.len
    have h40 := hR.short
    obtain ⟨os6, hO6, So6⟩ := OutsP.open_.mp (S6b.pull 4 rfl)
    have hol6 := So6.get 0 rfl
    refine q_zipL (b := ol) (xs := x6.xs) (ys := os6) (el_meth (ev_var rfl) hT6.ins rfl ea_nil fun H7 e7 Q q => ⟨tr, x6.dx, x6.u, x6.xs, qs, rfl, hT6.ex e7, q⟩) (ev_var rfl) hol6 (by rw [hO6.len, hR.len, hxl])
      (fun rp i σ' H' => (∃ a1 a2, σ' = [some (.ref s'), some (.ref tr), some (.ref ol), some .non, some (.ref c), some (.ref f), a1, a2]) ∧ Tu H6b H' ∧ ∃ vs, vs.length = i ∧ (∀ j q v, qs[j]? = some q → vs[j]? = some v → PaperV H' v (msAt z (ms0 lf) qs j) (thAt qs outs j) (j : Int) q.path q.page) ∧ Sat H' (CkP K c s' z (msAt z (ms0 lf) qs i) (thAt qs outs i) (i : Int) :: SetupP K s' frames z ts :: pt rp (.lst x6.xs) :: pt f (.lst vs) :: TraceP K tr qs :: pt ol (.lst os6) :: R))
      (fun rp H7 hrp e7 h7 => ⟨⟨_, _, rfl⟩, Ex.tu e7, [], rfl, fun j q v a b => by simp at b, ?_⟩) (fun rp i σ' H' _ p => let ⟨_, _, vs, _, _, S⟩ := p; ⟨S.get 2 rfl, S.get 5 rfl⟩) ?_ ?_
    · have S7 : Sat H6b (pt ol (.lst os6) :: pt f (.lst []) :: CkP K c s' z (ms0 lf) [] 0 :: SetupP K s' frames z ts :: TraceP K tr qs :: R) := So6
      have S8 := S7.grow hrp e7 h7
      have S9 := (((S8.pull 1 rfl).pull 5 rfl).pull 3 rfl)
      exact (((S9.pull 3 rfl).pull 5 rfl).pull 5 rfl)
    · rintro rp i x y H' σ' t hx hy ht ⟨⟨a1, a2, rfl⟩, p1, vs, p2, p3, p4⟩
      have tu6 : Tu H6b H' := p1
      obtain ⟨q, hq, rq, rfl, hrq⟩ := (hT6.reqs.tu tu6).get hx
      obtain ⟨o, ou, ho, rfl, hou⟩ := (hO6.tu tu6).get hy
      have hi2 : i < qs.length := (List.getElem?_eq_some_iff.mp hq).1
      have hst := hR.step i q _ hq ho
      have eT : Ex H' (upd H' t (.tup [.ref rq, .ref ou])) := Ex.new ht
      have S8 := p4.same eT
      have hrq8 := eT _ _ hrq
      refine ⟨t, _, rfl, st_of upd_same, rfl, _, _, rfl, _, _, rfl, rfl, ?_⟩
      obtain ⟨cx, hcx, Sc⟩ := CkP.open_.mp S8
      -- the paper
      refine ⟨_, rfl, .inl ⟨rfl, vs, sq_of (S8.get 3 rfl)⟩, _, rfl, c, cx.dx, _, rfl, Sc.get 0 rfl, rfl, ?_⟩
      refine (ea_cons (ta := tOp (rIxT K) (tVar 6) (tC (.int 2))) (ev_op (ev_var rfl) ev_c (rv_ixT (st_of hrq8) (v := .str q.path) rfl)) (ea_cons (ta := tOp (rIxT K) (tVar 6) (tC (.int 3))) (ev_op (ev_var rfl) ev_c (rv_ixT (st_of hrq8) (v := .str q.page) rfl)) ea_nil)) _ (Ex.refl _) _ fun H9 e9 => ?_
      have S9 := S8.same e9
      refine ⟨c, s', z, _, _, (i : Int), _, q.path, q.page, rfl, S9, hst.mok, hst.path, fun v H10 e10 hv => ?_⟩
      have S10 := S9.same e10
      refine ⟨f, vs, v, rfl, rfl, S10.get 3 rfl, sz_lt (by omega), ?_⟩
      have S11 := S10.put (o' := .lst (vs ++ [v])) 3 rfl
      have t11 : Tu H10 (upd H10 f (.lst (vs ++ [v]))) := Tu.upd (S10.get 3 rfl)
      have tT : Tu H' (upd H10 f (.lst (vs ++ [v]))) := (Ex.tu ((eT.trans e9).trans e10)).trans t11
      obtain ⟨cx2, hcx2, Sc2⟩ := CkP.open_.mp S11
      refine ⟨_, rfl, c, cx2.dx, _, rfl, Sc2.get 0 rfl, rfl, _, rfl, _, rfl, c, s', rq, ou, z, _, _, (i : Int), frames, ts, q, o, _, rfl, S11, tT _ _ hrq, tT _ _ hou, hz, hst, by omega, by omega, fun H12 S12 t12 => ?_⟩
      refine ⟨⟨_, _, rfl⟩, (p1.trans tT).trans t12, vs ++ [v], by rw [List.length_append, p2]; rfl, fun j q2 v2 hq2 hv2 => ?_, ?_⟩
      · by_cases hji : j < vs.length
        · rw [List.getElem?_append_left hji] at hv2
          exact (p3 j q2 v2 hq2 hv2).tu (tT.trans t12)
        · have hj : j = i := by
            have := (List.getElem?_eq_some_iff.mp hv2).1
            rw [List.length_append, List.length_singleton] at this
            omega
          subst hj
          rw [← p2, List.getElem?_append_right (Nat.le_refl _), Nat.sub_self] at hv2
          cases hv2
          rw [hq] at hq2
          cases hq2
          exact hv.tu (t11.trans t12)
      · rw [msAt_succ hq, thAt_succ hq ho]
        exact S12
    · rintro rp σ' H8 ⟨⟨a1, a2, rfl⟩, p1, vs, p2, p3, p4⟩
      have S9 : Sat H8 (pt f (.lst vs) :: SetupP K s' frames z ts :: TraceP K tr qs :: pt ol (.lst os6) :: R) := (p4.pull 3 rfl).sub ((((List.sublist_cons_self _ _).cons_cons _).cons _).cons_cons _)
      have S10 := Sat.back (l := [_, _, _]) (OutsP.open_.mpr ⟨os6, hO6.tu p1, S9.pull 3 rfl⟩)
      refine ⟨_, rfl, k f vs H8 S10 (t6b.trans p1) (by rw [p2, hxl]) fun i q v hq hv => p3 i q v hq hv⟩
end
end N32
set_option Elab.async false
set_option linter.all false
set_option maxRecDepth 100000
set_option maxHeartbeats 4000000

namespace N32
open PySem PySem.Spec PyProof.Rows L2 Evl
/-! ### the law's own defs: drawing -/
def PoolP (p : Addr) : HP := ex fun q : Int × Int => pt p (.lst [.int q.1, .int q.2])
theorem PoolP.open_ {p : Addr} {H : Hp} {R : List HP} : Sat H (PoolP p :: R) ↔ ∃ a b : Int, Sat H (pt p (.lst [.int a, .int b]) :: R) := by
  unfold PoolP
  rw [Sat.ex]
  exact ⟨fun ⟨⟨a, b⟩, h⟩ => ⟨a, b, h⟩, fun ⟨a, b, h⟩ => ⟨⟨a, b⟩, h⟩⟩
section
variable {K : PySem.W.Frag} {σ : L2.St} {H : Hp} {ta tb tv : TE} {D : Ends} {tz : TS}
theorem q_setL2 {p : Addr} {xs : List V} {j : Nat} {y : V} (hv : Ev tv σ H y) (ha : Ev ta σ H (.ref p)) (hi : Ev tb σ H (.int (j : Int))) (hx : H p = some (.lst xs)) (hj : j < xs.length) (k : ∀ H1, Ex H H1 → tz D σ (upd H1 p (.lst (xs.set j y)))) : tSeq (tAsg tv (gSub ta tb rSetL)) tz D σ H :=
  hv H (Ex.refl _) _ fun H1 e1 => ha H1 e1 _ fun H2 e2 => hi H2 (e1.trans e2) _ fun H3 e3 => ⟨p, xs, _, j, rfl, rfl, e3 _ _ (e2 _ _ (e1 _ _ hx)), by
    unfold ixN
    first
    | (rw [if_neg (by omega)]; simp [hj])
    | simp [hj], k H3 ((e1.trans e2).trans e3)⟩
end

section
variable {P : Program} {w : World} {K : PySem.W.Frag} {mg : Str → Option Value} {base : Heap}
abbrev n_l_draw : List Str := ["_law_pool", "_law_size", "_law_found"]
theorem sc_l_draw : FnScope n_l_draw ["_law_pool", "_law_size"] (defScope s_l_draw) := C8.fnScope_by (by decide +kernel)
def sp_l_draw (K : PySem.W.Frag) : Sp := fun vs H Q _ => ∃ (p : Addr) (size : Int) (R : List HP), vs = [.ref p, .int size] ∧ 1 ≤ size ∧ size ≤ 1000 ∧ Sat H (PoolP p :: R) ∧ ∀ (i : Int) (H' : Hp), 0 ≤ i → i < size → Sat H' (PoolP p :: R) → Tu H H' → Q (.int i) H'
theorem ok_l_draw  (T : Ctx K mg) : C8.Cal P w K mg base 1 "_law_draw" (sp_l_draw K) [] := by
  refine cal_of T.f_l_draw (T.glo _ (by decide)) (N := n_l_draw) sc_l_draw (fun _ _ _ _ _ _ us hl => match us, hl with | [_, _], _ => rfl) (fun vs H Q E h => ?len) (fun cdv A outer s H vs Q E hr h => ?body)
  case len =>
    obtain ⟨_, _, _, rfl, _⟩ := h
    rfl
  case body =>
    obtain ⟨p, size, R, rfl, h1, h2, S, k⟩ := h
    refine ⟨_, (pss_cons (ps_if (pt_cmpR op_gt (pe_ix (ix_listK (K := K)) (pv 0) pe_int (fun _ _ => rfl)) pe_int (by rfl)) (pss_cons (ps_set (i := 2) sc_l_draw.nd rfl (Or.inl rfl) (pe_op op_mod (pe_ix (ix_listK (K := K)) (pv 0) pe_int (fun _ _ => rfl)) (pv 1))) (pss_cons (ps_asg (pe_op op_fdiv (pe_ix (ix_listK (K := K)) (pv 0) pe_int (fun _ _ => rfl)) (pv 1)) (pg_sub (pv 0) pe_int set_list)) (pss_one (ps_ret (pv 2))))) pss_nil) (pss_cons (ps_asg (pe_op op_mod (pe_op op_add (pe_op op_mul (pe_ix (ix_listK (K := K)) (pv 0) pe_int (fun _ _ => rfl)) pe_int) pe_int) pe_int) (pg_sub (pv 0) pe_int set_list)) (pss_one (ps_ret (pe_op op_mod (pe_op op_fdiv (pe_op op_mod (pe_op op_mul (pe_ix (ix_listK (K := K)) (pv 0) pe_int (fun _ _ => rfl)) (pe_ix (ix_listK (K := K)) (pv 0) pe_int (fun _ _ => rfl))) pe_int) pe_int) (pv 1)))))), ?_⟩
    obtain ⟨a, b, S⟩ := PoolP.open_.mp S
    have hp := S.get 0 rfl
    have ix : ∀ (H1 : Hp) (σ : L2.St) (a b : Int) (i : Int) (y : V), H1 p = some (.lst [.int a, .int b]) → σ[0]? = some (some (.ref p)) → atI [V.int a, .int b] i = some y → Ev (tOp (rIxL K) (tVar 0) (tC (.int i))) σ H1 y := fun H1 σ a b i y h hσ hy => ev_op (ev_var hσ) ev_c (rv_ixL (sq_of h) hy)
    refine q_when (b := decide (a > 0)) (et_is (et_test (ev_op (ix H _ a b 0 (.int a) hp rfl rfl) ev_c rv_I0)) rfl) (fun hb H1 e1 => ?_) fun hb H1 e1 => ?_
    · have hp1 := e1 _ _ hp
      refine q_asg (v := .int (a % size)) (ev_op (ix H1 _ a b 0 (.int a) hp1 rfl rfl) (ev_var rfl) (rv_I (by show 0 < size; omega))) fun H2 e2 => ?_
      refine q_setL2 (j := 0) (y := .int (a / size)) (ev_op (ix H2 _ a b 0 (.int a) (e2 _ _ hp1) rfl rfl) (ev_var rfl) (rv_I ⟨by omega, by omega⟩)) (ev_var rfl) ev_c (e2 _ _ hp1) (by show 0 < 2; decide) fun H3 e3 => ?_
      have S3 := S.same ((e1.trans e2).trans e3)
      refine s_ret (ev_var rfl) fun H4 e4 => k _ H4 (Int.emod_nonneg _ (by omega)) (Int.emod_lt_of_pos _ (by omega)) ((PoolP.open_.mpr ⟨a / size, b, S3.put 0 rfl⟩).same e4) (((Ex.tu ((e1.trans e2).trans e3)).trans (Tu.upd (S3.get 0 rfl))).trans (Ex.tu e4))
    · have hp1 := e1 _ _ hp
      refine q_setL2 (j := 1) (y := .int ((b * 48271 + 11) % 2147483647)) (ev_op (ev_op (ev_op (ix H1 _ a b 1 (.int b) hp1 rfl rfl) ev_c (rv_I (Or.inr ⟨by decide, by decide⟩))) ev_c rv_I0) ev_c (rv_I (by show (0 : Int) < 2147483647; decide))) (ev_var rfl) ev_c hp1 (by show 1 < 2; decide) fun H3 e3 => ?_
      have S3 := (S.same (e1.trans e3)).put (o' := .lst [.int a, .int ((b * 48271 + 11) % 2147483647)]) 0 rfl
      have t3 : Tu H (upd H3 p (.lst [.int a, .int ((b * 48271 + 11) % 2147483647)])) := (Ex.tu (e1.trans e3)).trans (Tu.upd ((S.same (e1.trans e3)).get 0 rfl))
      have hc1 : 0 ≤ (b * 48271 + 11) % 2147483647 := Int.emod_nonneg _ (by decide)
      have hc2 : (b * 48271 + 11) % 2147483647 < 2147483647 := Int.emod_lt_of_pos _ (by decide)
      show tRet _ _ _ (upd H3 p (.lst [.int a, .int ((b * 48271 + 11) % 2147483647)]))
      generalize (b * 48271 + 11) % 2147483647 = c at S3 t3 hc1 hc2 ⊢
      generalize upd H3 p (.lst [.int a, .int c]) = H4 at S3 t3 ⊢
      have hp4 := S3.get 0 rfl
      refine s_ret (v := .int (c * c % 2147483629 / 64 % size)) (ev_op (ev_op (ev_op (ev_op (ix H4 _ a c 1 (.int c) hp4 rfl rfl) (ix H4 _ a c 1 (.int c) hp4 rfl rfl) (rv_I (Or.inl ⟨by omega, by omega⟩))) ev_c (rv_I (by show (0 : Int) < 2147483629; decide))) ev_c (rv_I ⟨by decide, by decide⟩)) (ev_var rfl) (rv_I (by show 0 < size; omega))) fun H5 e5 => ?_
      exact k _ H5 (Int.emod_nonneg _ (by omega)) (Int.emod_lt_of_pos _ (by omega)) ((PoolP.open_.mpr ⟨a, c, S3⟩).same e5) (t3.trans (Ex.tu e5))
end
section
variable {P : Program} {w : World} {K : PySem.W.Frag} {mg : Str → Option Value} {base : Heap}
abbrev n_l_hand : List Str := ["_law_script", "_law_k", "_law_cell", "_law_seed"]
theorem sc_l_hand : FnScope n_l_hand ["_law_script", "_law_k"] (defScope s_l_hand) := C8.fnScope_by (by decide +kernel)
def sp_l_hand (K : PySem.W.Frag) : Sp := fun vs H Q _ => ∃ (a : Addr) (ns : List Int) (i : Int), vs = [.ref a, .int i] ∧ SqL K H a (ns.map V.int) ∧ ns.length ≤ 1000 ∧ 0 ≤ i ∧ i ≤ 100 ∧ ∀ p (x y : Int) H', H p = none → Ex H H' → H' p = some (.lst [.int x, .int y]) → Q (.ref p) H'
theorem ok_l_hand  (T : Ctx K mg) : C8.Cal P w K mg base 1 "_law_hand" (sp_l_hand K) [] := by
  refine cal_of T.f_l_hand (T.glo _ (by decide)) (N := n_l_hand) sc_l_hand (fun _ _ _ _ _ _ us hl => match us, hl with | [_, _], _ => rfl) (fun vs H Q E h => ?len) (fun cdv A outer s H vs Q E hr h => ?body)
  case len =>
    obtain ⟨_, _, _, rfl, _⟩ := h
    rfl
  case body =>
    obtain ⟨a, ns, i, rfl, ha, hl, h0, h1, k⟩ := h
    refine ⟨_, (pss_cons (ps_set (i := 2) sc_l_hand.nd rfl (Or.inl rfl) (pe_ix (ix_listK (K := K)) (pe_op op_cat (pe_slice (sl_listK (K := K)) (pv 0) (po_some (pv 1)) (po_some (pe_op op_add (pv 1) pe_int))) (pe_lst (pa_cons pe_int pa_nil))) pe_int (fun _ _ => rfl))) (pss_cons (ps_set (i := 3) sc_l_hand.nd rfl (Or.inl rfl) (pe_op op_mod (pe_op op_mul (pe_op op_add (pe_op op_add (pe_op op_mod (pv 2) pe_int) (pe_op op_mul pe_int (pv 1))) pe_int) pe_int) pe_int)) (pss_one (ps_ret (pe_lst (pa_cons (pe_op op_mul (pe_callTy call_int1 (by rfl) (T.free _ (by decide)) (by decide +kernel) (pa_cons (pe_cmpR op_ge (pv 2) (pe_op op_pow pe_int pe_int) (by rfl)) pa_nil)) (pv 2)) (pa_cons (pv 3) pa_nil))))))), ?_⟩
    obtain ⟨c, hc⟩ : ∃ c : Int, (cutV (ns.map V.int) (some i) (some (i + 1)) ++ [V.int 0])[0]? = some (.int c) := by
      cases e : cutV (ns.map V.int) (some i) (some (i + 1)) with
      | nil => exact ⟨0, rfl⟩
      | cons x r =>
        have hx : x ∈ cutV (ns.map V.int) (some i) (some (i + 1)) := by rw [e]; exact List.mem_cons_self
        unfold cutV at hx
        obtain ⟨n, _, rfl⟩ := List.mem_map.mp (List.mem_of_mem_drop (List.mem_of_mem_take hx))
        exact ⟨n, rfl⟩
    have hcl := cutV_length (ns.map V.int) (some i) (some (i + 1))
    rw [List.length_map] at hcl
    refine q_asg (v := .int c) (fun H1 e1 Q1 q1 => (el_cat (el_sl (ev_var rfl) (eo_some (ev_var rfl)) (eo_some (ev_op (ev_var rfl) ev_c rv_I0)) ha) (el_lst (ea_cons ev_c ea_nil) (by show 1 ≤ 100000; decide)) (by show _ + 1 ≤ _; omega)) H1 e1 _ fun p H2 _ e2 h2 => ⟨p, _, 0, _, rfl, rfl, sq_of h2, at_of (j := 0) rfl hc, q1 H2 e2⟩) fun H1 e1 => ?_
    refine q_asg (v := .int ((c % 2147483647 + 7919 * i + 1) * 48271 % 2147483629)) (ev_op (ev_op (ev_op (ev_op (ev_op (ev_var rfl) ev_c (rv_I (by show (0 : Int) < 2147483647; decide))) (ev_op ev_c (ev_var rfl) (rv_I (Or.inl ⟨by decide, by decide⟩))) rv_I0) ev_c rv_I0) ev_c (rv_I (Or.inr ⟨by decide, by decide⟩))) ev_c (rv_I (by show (0 : Int) < 2147483629; decide))) fun H2 e2 => ?_
    refine s_retL (el_lst (ea_cons (ev_op (ev_int1 (k := decide (c ≥ 10 ^ 18)) (ev_op (ev_var rfl) (ev_op ev_c ev_c (rv_I ⟨by decide, by decide, by decide⟩)) rv_I0)) (ev_var rfl) (rv_I (Or.inl ?_))) (ea_cons (ev_var rfl) ea_nil)) (by show 2 ≤ 100000; decide)) fun p H3 hp e3 h3 => k p _ _ H3 (fresh_back (e1.trans e2) hp) ((e1.trans e2).trans e3) h3
    split <;> exact ⟨by decide, by decide⟩
end
section
variable {P : Program} {w : World} {K : PySem.W.Frag} {mg : Str → Option Value} {base : Heap}
abbrev n_l_rule : List Str := ["_law_pool", "_law_some"]
theorem sc_l_rule : FnScope n_l_rule ["_law_pool"] (defScope s_l_rule) := C8.fnScope_by (by decide +kernel)
def sp_l_rule (K : PySem.W.Frag) : Sp := fun vs H Q _ => ∃ (p : Addr) (R : List HP), vs = [.ref p] ∧ Sat H (PoolP p :: R) ∧ ∀ (r : Nat) (H' : Hp), r < 6 → Sat H' (PoolP p :: R) → Tu H H' → Q (.ref (fR K r)) H'
theorem ok_l_rule  (T : Ctx K mg) : C8.Cal P w K mg base 2 "_law_rule" (sp_l_rule K) [] := by
  refine cal_of T.f_l_rule (T.glo _ (by decide)) (N := n_l_rule) sc_l_rule (fun _ _ _ _ _ _ us hl => match us, hl with | [_], _ => rfl) (fun vs H Q E h => ?len) (fun cdv A outer s H vs Q E hr h => ?body)
  case len =>
    obtain ⟨_, _, rfl, _⟩ := h
    rfl
  case body =>
    obtain ⟨p, R, rfl, S, k⟩ := h
    refine ⟨_, (pss_cons (ps_set (i := 1) sc_l_rule.nd rfl (Or.inl rfl) (pe_lst (pa_cons (C8.pe_gc (v := .ref (He.ga K "_law_first")) (by rfl) ⟨_, T.glo _ (by decide), rfl⟩) (pa_cons (C8.pe_gc (v := .ref (He.ga K "_law_turning")) (by rfl) ⟨_, T.glo _ (by decide), rfl⟩) (pa_cons (C8.pe_gc (v := .ref (He.ga K "_law_least")) (by rfl) ⟨_, T.glo _ (by decide), rfl⟩) (pa_cons (C8.pe_gc (v := .ref (He.ga K "_law_generous")) (by rfl) ⟨_, T.glo _ (by decide), rfl⟩) (pa_cons (C8.pe_gc (v := .ref (He.ga K "_law_shy")) (by rfl) ⟨_, T.glo _ (by decide), rfl⟩) (pa_cons (C8.pe_gc (v := .ref (He.ga K "_law_wild")) (by rfl) ⟨_, T.glo _ (by decide), rfl⟩) pa_nil)))))))) (pss_one (ps_ret (pe_ix (ix_listK (K := K)) (pv 1) (C8.pe_c (ok_l_draw T) hr (by decide) (by rfl) (pa_cons (pv 0) (pa_cons pe_int pa_nil))) (fun _ _ => rfl))))), ?_⟩
    refine q_asgL (xs := [.ref (fR K 0), .ref (fR K 1), .ref (fR K 2), .ref (fR K 3), .ref (fR K 4), .ref (fR K 5)]) (el_lst (ea_cons ev_c (ea_cons ev_c (ea_cons ev_c (ea_cons ev_c (ea_cons ev_c (ea_cons ev_c ea_nil)))))) (by show 6 ≤ 100000; decide)) fun l H1 hl e1 h1 => ?_
    have S1 := S.grow hl e1 h1
    refine ⟨_, rfl, _, rfl, p, 6, _, rfl, by decide, by decide, S1.swap, fun i H2 hi0 hi6 S2 t2 => ?_⟩
    obtain ⟨r, rfl⟩ : ∃ r : Nat, i = (r : Int) := ⟨i.toNat, by omega⟩
    have hr6 : r < 6 := by omega
    refine ⟨l, _, _, .ref (fR K r), rfl, rfl, sq_of (S2.get 1 rfl |> fun h => h), at_of (j := r) rfl ?_, k r H2 hr6 (S2.sub ((List.sublist_cons_self _ _).cons_cons _)) ((Ex.tu e1).trans t2)⟩
    match r, hr6 with
    | 0, _ => rfl
    | 1, _ => rfl
    | 2, _ => rfl
    | 3, _ => rfl
    | 4, _ => rfl
    | 5, _ => rfl
end
end N32
set_option Elab.async false
set_option linter.all false
set_option maxRecDepth 100000
set_option maxHeartbeats 4000000

namespace N32
open PySem PySem.Spec PyProof.Rows L2 Evl
section
variable {K : PySem.W.Frag} {σ : L2.St} {H : Hp} {tl ts : TE} {p : Addr} {R : List HP} {Q : VK} {j : Nat}
/-- a draw -/
theorem t_draw {size : Int} (S : Sat H (PoolP p :: R)) (h0 : σ[j]? = some (some (.ref p))) (hs : Ev ts σ H (.int size)) (h1 : 1 ≤ size) (h2 : size ≤ 1000) (k : ∀ (i : Int) H', 0 ≤ i → i < size → Sat H' (PoolP p :: R) → Tu H H' → Q (.int i) H') : tCall (sp_l_draw K) [] C8.E0 (tCons (tVar j) (tCons ts tNil)) σ H Q :=
  ⟨_, h0, hs H (Ex.refl _) _ fun H1 e1 => ⟨p, size, R, rfl, h1, h2, S.same e1, fun i H' a b c d => k i H' a b c ((Ex.tu e1).trans d)⟩⟩
/-- [..][draw] -/
theorem t_pick {xs : List V} {size : Int} (S : Sat H (PoolP p :: R)) (h0 : σ[j]? = some (some (.ref p))) (hl : EvL tl σ H xs) (hs : ∀ H1, Ex H H1 → Ev ts σ H1 (.int size)) (hsz : (xs.length : Int) = size) (h1 : 1 ≤ size) (h2 : size ≤ 1000) (k : ∀ x H', x ∈ xs → Sat H' (PoolP p :: R) → Tu H H' → Q x H') :
    tOp (rIxL K) tl (tCall (sp_l_draw K) [] C8.E0 (tCons (tVar j) (tCons ts tNil))) σ H Q :=
  hl H (Ex.refl _) _ fun l H1 hl1 e1 h1l => by
    have S1 := (S.grow hl1 e1 h1l).swap
    refine t_draw S1 h0 (hs H1 e1) h1 h2 fun i H2 a b S2 t2 => ?_
    obtain ⟨n, rfl⟩ : ∃ n : Nat, i = (n : Int) := ⟨i.toNat, by omega⟩
    have hn : n < xs.length := by omega
    exact ⟨l, xs, _, xs[n], rfl, rfl, sq_of (S2.get 1 rfl), at_of (j := n) rfl (List.getElem?_eq_getElem hn), k _ H2 (List.getElem_mem hn) (S2.sub ((List.sublist_cons_self _ _).cons_cons _)) ((Ex.tu e1).trans t2)⟩
/-- xs[draw] -/
theorem t_pickV {xs : List V} {size : Int} {m : Nat} {l : Addr} (S : Sat H (PoolP p :: R)) (h0 : σ[j]? = some (some (.ref p))) (hl : Ev tl σ H (.ref l)) (hm : R[m]? = some (pt l (.lst xs))) (hs : ∀ H1, Ex H H1 → Ev ts σ H1 (.int size)) (hsz : (xs.length : Int) = size) (h1 : 1 ≤ size) (h2 : size ≤ 1000) (k : ∀ x H', x ∈ xs → Sat H' (PoolP p :: R) → Tu H H' → Q x H') :
    tOp (rIxL K) tl (tCall (sp_l_draw K) [] C8.E0 (tCons (tVar j) (tCons ts tNil))) σ H Q :=
  hl H (Ex.refl _) _ fun H1 e1 => by
    refine t_draw (S.same e1) h0 (hs H1 e1) h1 h2 fun i H2 a b S2 t2 => ?_
    obtain ⟨n, rfl⟩ : ∃ n : Nat, i = (n : Int) := ⟨i.toNat, by omega⟩
    have hn : n < xs.length := by omega
    exact ⟨l, xs, _, xs[n], rfl, rfl, sq_of (S2.tail.get m hm), at_of (j := n) rfl (List.getElem?_eq_getElem hn), k _ H2 (List.getElem_mem hn) S2 ((Ex.tu e1).trans t2)⟩
end
theorem abc_page : ∀ n < 8, ∃ c, ("abcdefgh" : Str).cps.toList[n]? = some c ∧ (⟨#[c]⟩ : Str) ∈ pagesL := by decide +kernel

section
variable {P : Program} {w : World} {K : PySem.W.Frag} {mg : Str → Option Value} {base : Heap}
abbrev n_l_trace : List Str := ["_law_pool", "_law_paths_here", "_law_most", "_law_names", "_law_found", "_law_at", "_law_turn", "_law_kind", "_law_path"]
theorem sc_l_trace : FnScope n_l_trace ["_law_pool", "_law_paths_here", "_law_most", "_law_names"] (defScope s_l_trace) := C8.fnScope_by (by decide +kernel)
def sp_l_trace (K : PySem.W.Frag) : Sp := fun vs H Q _ => ∃ (p lp : Addr) (paths : List Str) (R : List HP), vs = [.ref p, .ref lp, .int 40, .str "abcdefgh"] ∧ Sat H (PoolP p :: pt lp (.lst (paths.map V.str)) :: R) ∧ 1 ≤ paths.length ∧ paths.length ≤ 100 ∧ (∀ x ∈ paths, x ∈ pathsL) ∧
  ∀ f xs qs H', Sat H' (pt f (.lst xs) :: PoolP p :: pt lp (.lst (paths.map V.str)) :: R) → ReqL H' xs qs → ReqsOk qs → (∀ q ∈ qs, q.path ∈ paths) → Tu H H' → Q (.ref f) H'
theorem ok_l_trace  (T : Ctx K mg) : C8.Cal P w K mg base 2 "_law_trace" (sp_l_trace K) [] := by
  refine cal_of T.f_l_trace (T.glo _ (by decide)) (N := n_l_trace) sc_l_trace (fun _ _ _ _ _ _ us hl => match us, hl with | [_, _, _, _], _ => rfl) (fun vs H Q E h => ?len) (fun cdv A outer s H vs Q E hr h => ?body)
  case len =>
    obtain ⟨_, _, _, _, rfl, _⟩ := h
    rfl
  case body =>
    obtain ⟨p, lp, paths, R, rfl, S, hp1, hp2, hpp, k⟩ := h
    refine ⟨_, (pss_cons (ps_par (i := 4) (j := 5) (by rfl) sc_l_trace.nd rfl rfl (by decide) rfl rfl (pa_cons (pe_lst pa_nil) (pa_cons pe_int pa_nil)) (by rfl)) (pss_cons (ps_for PassesOwn.never (by rfl) (pi_range1 (by rfl) (T.free _ (by decide)) (pa_cons (C8.pe_c (ok_l_draw T) hr (by decide) (by rfl) (pa_cons (pv 0) (pa_cons (pe_op op_add (pv 2) pe_int) pa_nil))) pa_nil)) (pg_name (i := 6) sc_l_trace.nd rfl (Or.inl rfl)) (pss_cons (ps_set (i := 5) sc_l_trace.nd rfl (Or.inl rfl) (pe_op op_add (pv 5) (pe_ix (ix_listK (K := K)) (pe_lst (pa_cons pe_int (pa_cons pe_int (pa_cons pe_int (pa_cons pe_int (pa_cons pe_int pa_nil)))))) (C8.pe_c (ok_l_draw T) hr (by decide) (by rfl) (pa_cons (pv 0) (pa_cons pe_int pa_nil))) (fun _ _ => rfl)))) (pss_cons (ps_par (i := 7) (j := 8) (by rfl) sc_l_trace.nd rfl rfl (by decide) rfl rfl (pa_cons (pe_ix (ix_listK (K := K)) (pe_lst (pa_cons pe_str (pa_cons pe_str (pa_cons pe_str pa_nil)))) (C8.pe_c (ok_l_draw T) hr (by decide) (by rfl) (pa_cons (pv 0) (pa_cons pe_int pa_nil))) (fun _ _ => rfl)) (pa_cons (pe_ix (ix_listK (K := K)) (pv 1) (C8.pe_c (ok_l_draw T) hr (by decide) (by rfl) (pa_cons (pv 0) (pa_cons (pe_callB (call_len_seqK (K := K)) (by rfl) (T.free _ (by decide)) (by decide +kernel) (pa_cons (pv 1) pa_nil)) pa_nil))) (fun _ _ => rfl)) pa_nil)) (by rfl)) (pss_one (ps_expr (pe_bmK (K := K) PySem.F.plainAttrs_list PySem.F.slot_list_append PySem.F.type_list_append mt_append (pv 4) (pa_cons (pe_tup (pa_cons (pv 5) (pa_cons (pv 7) (pa_cons (pv 8) (pa_cons (pe_ix ix_str (pv 3) (C8.pe_c (ok_l_draw T) hr (by decide) (by rfl) (pa_cons (pv 0) (pa_cons (pe_callB call_len_str (by rfl) (T.free _ (by decide)) (by decide +kernel) (pa_cons (pv 3) pa_nil)) pa_nil))) (fun _ _ => rfl)) pa_nil))))) pa_nil))))))) (pss_one (ps_ret (pv 4))))), ?_⟩
    refine ⟨Nat.zero_le _, fun f hf => ⟨_, _, rfl, ?_⟩⟩
    have S1 := S.new (o := .lst []) hf
    have t1 : Tu H (upd H f (.lst [])) := Tu.new hf
    generalize upd H f (.lst []) = H1 at S1 t1
    refine t_draw (size := 41) S1.swap rfl (ev_op (ev_var rfl) ev_c rv_I0) (by decide) (by decide) fun n H2 hn0 hn1 S2 t2 => ?_
    refine ⟨n, rfl, by omega, by omega, ?_⟩
    refine for_it walk_range (fun i σ' H' => ∃ (at_ : Int) (a6 a7 a8 : Option V), σ' = [some (.ref p), some (.ref lp), some (.int 40), some (.str "abcdefgh"), some (.ref f), some (.int at_), a6, a7, a8] ∧ Tu H2 H' ∧ 0 ≤ at_ ∧ at_ ≤ 12 * i ∧ ∃ xs qs, Sat H' (PoolP p :: pt f (.lst xs) :: pt lp (.lst (paths.map V.str)) :: R) ∧ ReqL H' xs qs ∧ qs.length = i ∧ (∀ q ∈ qs, ReqOk q ∧ q.at_ ≤ at_ ∧ q.path ∈ paths) ∧ qs.Pairwise fun a b => a.at_ ≤ b.at_)
      ⟨0, _, _, _, rfl, Tu.refl _, Int.le_refl _, by omega, [], [], S2, ⟨rfl, fun i x q h => by simp at h⟩, rfl, fun q hq => by simp at hq, .nil⟩ (fun i σ' H' _ _ => trivial) ?_ ?_
    · rintro i x σ' H' H3 hi ⟨at_, a6, a7, a8, rfl, p1, p2, p3, xs, qs, p4, p5, p6, p7, p8⟩ ⟨rfl, rfl⟩
      have hi41 : i < 41 := by omega
      have hxs : xs.length = i := by rw [p5.len, p6]
      refine ⟨_, rfl, t_pick (size := 5) p4 rfl (xs := [.int 0, .int 0, .int 1, .int 3, .int 12]) (el_lst (ea_cons ev_c (ea_cons ev_c (ea_cons ev_c (ea_cons ev_c (ea_cons ev_c ea_nil))))) (by show 5 ≤ 100000; decide)) (fun _ _ => ev_c) rfl (by decide) (by decide) fun x H4 hx S4 t4 => ?_⟩
      obtain ⟨w, rfl, hw0, hw1⟩ : ∃ w : Int, x = .int w ∧ 0 ≤ w ∧ w ≤ 12 := by
        simp only [List.mem_cons, List.not_mem_nil, or_false] at hx
        rcases hx with rfl | rfl | rfl | rfl | rfl
        · exact ⟨0, rfl, by decide, by decide⟩
        · exact ⟨0, rfl, by decide, by decide⟩
        · exact ⟨1, rfl, by decide, by decide⟩
        · exact ⟨3, rfl, by decide, by decide⟩
        · exact ⟨12, rfl, by decide, by decide⟩
      refine ⟨at_, w, rfl, rfl, ?_⟩
      refine t_pick (size := 3) S4 rfl (xs := [.str "read", .str "read", .str "write"]) (el_lst (ea_cons ev_c (ea_cons ev_c (ea_cons ev_c ea_nil))) (by show 3 ≤ 100000; decide)) (fun _ _ => ev_c) rfl (by decide) (by decide) fun kd H5 hkd S5 t5 => ?_
      refine t_pickV (size := (paths.length : Int)) (m := 1) (xs := paths.map V.str) S5 rfl (ev_var rfl) rfl (fun H6 e6 => ev_is (ev_len (ev_var rfl) (sq_of (e6 _ _ (S5.get 2 rfl)))) (by rw [List.length_map])) (by rw [List.length_map]) (by omega) (by omega) fun pa H6 hpa S6 t6 => ⟨_, _, rfl, ?_⟩
      obtain ⟨pa, hpa2, rfl⟩ := List.mem_map.mp hpa
      obtain ⟨kind, rfl, hkind⟩ : ∃ kind : Str, kd = .str kind ∧ (kind = "read" ∨ kind = "write") := by
        simp only [List.mem_cons, List.not_mem_nil, or_false] at hkd
        rcases hkd with rfl | rfl | rfl
        · exact ⟨_, rfl, .inl rfl⟩
        · exact ⟨_, rfl, .inl rfl⟩
        · exact ⟨_, rfl, .inr rfl⟩
      refine ⟨_, rfl, .inl ⟨rfl, xs, sq_of (S6.get 1 rfl)⟩, _, rfl, _, rfl, _, rfl, _, rfl, t_draw (size := 8) S6 rfl (fun H7 e7 Q q => ⟨_, rfl, "abcdefgh", rfl, sz_of (by decide), q H7 (Ex.refl _)⟩) (by decide) (by decide) fun n2 H7 hn20 hn28 S7 t7 => ?_⟩
      obtain ⟨m, rfl⟩ : ∃ m : Nat, n2 = (m : Int) := ⟨n2.toNat, by omega⟩
      obtain ⟨c, hc, hcp⟩ := abc_page m (by omega)
      refine ⟨"abcdefgh", _, c, rfl, rfl, sz_of (by decide), ?_, sz_of (by show 4 ≤ 100000; decide), fun t ht => ?_⟩
      · exact atI_nat hc
      have S8 := S7.same (Ex.new (o := .tup [.int (at_ + w), .str kind, .str pa, .str ⟨#[c]⟩]) ht)
      have tt : Tu H3 (upd H7 t (.tup [.int (at_ + w), .str kind, .str pa, .str ⟨#[c]⟩])) := (((t4.trans t5).trans t6).trans t7).trans (Tu.new ht)
      refine ⟨f, xs, _, rfl, rfl, S8.get 1 rfl, sz_lt (by omega), ?_⟩
      have t9 := tt.trans (Tu.upd (o' := .lst (xs ++ [.ref t])) (S8.get 1 rfl))
      have htt : (upd (upd H7 t (.tup [.int (at_ + w), .str kind, .str pa, .str ⟨#[c]⟩])) f (.lst (xs ++ [.ref t]))) t = some (.tup [.int (at_ + w), .str kind, .str pa, .str ⟨#[c]⟩]) := Tu.upd (S8.get 1 rfl) (fun z => z) _ _ upd_same
      refine ⟨at_ + w, _, _, _, rfl, p1.trans t9, by omega, by omega, xs ++ [.ref t], qs ++ [⟨at_ + w, kind, pa, ⟨#[c]⟩⟩], S8.put 1 rfl, ⟨by rw [List.length_append, List.length_append, p5.len]; rfl, fun jj x q hx hq => ?_⟩, by rw [List.length_append, p6]; rfl, fun q hq => ?_, ?_⟩
      · by_cases hjl : jj < xs.length
        · rw [List.getElem?_append_left hjl] at hx
          rw [List.getElem?_append_left (by rw [← p5.len]; exact hjl)] at hq
          exact (p5.at_ jj x q hx hq).tu t9
        · rw [List.getElem?_append_right (by omega)] at hx
          rw [List.getElem?_append_right (by rw [← p5.len]; omega), ← p5.len] at hq
          have hz : jj - xs.length = 0 := by
            have := (List.getElem?_eq_some_iff.mp hx).1
            simp at this
            omega
          rw [hz] at hx hq
          cases hx
          cases hq
          exact ⟨t, rfl, htt⟩
      · rcases List.mem_append.mp hq with a | a
        · obtain ⟨a1, a2, a3⟩ := p7 q a
          exact ⟨a1, by omega, a3⟩
        · rw [List.mem_singleton.mp a]
          exact ⟨⟨by show 0 ≤ at_ + w; omega, by show at_ + w ≤ 1000; omega, hkind, hpp pa hpa2, hcp⟩, Int.le_refl _, hpa2⟩
      · rw [List.pairwise_append]
        refine ⟨p8, List.pairwise_singleton _ _, fun a ha b hb => ?_⟩
        rw [List.mem_singleton.mp hb]
        have := (p7 a ha).2.1
        show a.at_ ≤ at_ + w
        omega
    · rintro σ' H' ⟨at_, a6, a7, a8, rfl, p1, p2, p3, xs, qs, p4, p5, p6, p7, p8⟩
      exact ⟨_, rfl, k f xs qs H' p4.swap p5 ⟨by rw [p6]; omega, fun q hq => (p7 q hq).1, p8⟩ (fun q hq => (p7 q hq).2.2) ((t1.trans t2).trans p1)⟩
end
end N32
set_option Elab.async false
set_option linter.all false
set_option maxRecDepth 100000
set_option maxHeartbeats 4000000

namespace N32
open PySem PySem.Spec PyProof.Rows L2 Evl
/-! ### tenants as the law draws them -/
section
variable {K : PySem.W.Frag} {α : Type}
def rwhatP (K : PySem.W.Frag) (kidP : Addr → List α → HP) (w : V) : What α → HP
  | .rule r => pu (w = .ref (fR K r) ∧ r < 6)
  | .kids l r => ex fun q : Addr × Addr => al [pu (w = .ref q.1 ∧ r < 6), pt q.1 (.lst [.ref q.2, .ref (fR K r)]), kidP q.2 l]
def rtenP (K : PySem.W.Frag) (kidP : Addr → List α → HP) (v : V) (t : TnS α) : HP := ex fun q : Addr × V => al [pu (v = .ref q.1), tp q.1 [.str t.name, .int t.share, q.2], rwhatP K kidP q.2 t.what]
def rseqP (K : PySem.W.Frag) (kidP : Addr → List α → HP) : List V → List (TnS α) → List HP
  | x :: xs, t :: ts => rtenP K kidP x t :: rseqP K kidP xs ts
  | [], [] => []
  | _, _ => [pu False]
def rawP (K : PySem.W.Frag) : (n : Nat) → Addr → List (Kid n) → HP
  | 0 => fun _ _ => pu False
  | n + 1 => fun f ts => ex fun xs : List V => al (pt f (.lst xs) :: rseqP K (rawP K n) xs ts)
theorem rseqP_snoc {kidP : Addr → List α → HP} {x : V} {t : TnS α} : ∀ {xs : List V} {ts : List (TnS α)}, xs.length = ts.length → rseqP K kidP (xs ++ [x]) (ts ++ [t]) = rseqP K kidP xs ts ++ [rtenP K kidP x t]
  | [], [], _ => rfl
  | [], _ :: _, h => by simp at h
  | _ :: _, [], h => by simp at h
  | y :: xs, u :: ts, h => by
    show _ :: rseqP K kidP (xs ++ [x]) (ts ++ [t]) = _ :: (rseqP K kidP xs ts ++ [rtenP K kidP x t])
    rw [rseqP_snoc (by simpa using h)]
theorem rseqP_len {kidP : Addr → List α → HP} {H : Hp} {R : List HP} : ∀ {xs : List V} {ts : List (TnS α)}, Sat H (rseqP K kidP xs ts ++ R) → xs.length = ts.length
  | [], [], _ => rfl
  | [], _ :: _, h => (Sat.pu.mp h).1.elim
  | _ :: _, [], h => (Sat.pu.mp h).1.elim
  | _ :: xs, _ :: ts, h => by rw [List.length_cons, List.length_cons, rseqP_len (Sat.tail h)]
theorem rseqP_mid {kidP : Addr → List α → HP} {x : V} {t : TnS α} : ∀ {x1 x2 : List V} {t1 t2 : List (TnS α)}, x1.length = t1.length → rseqP K kidP (x1 ++ x :: x2) (t1 ++ t :: t2) = rseqP K kidP x1 t1 ++ rtenP K kidP x t :: rseqP K kidP x2 t2
  | [], _, [], _, _ => rfl
  | [], _, _ :: _, _, h => by simp at h
  | _ :: _, _, [], _, h => by simp at h
  | y :: xs, x2, u :: ts, t2, h => by
    show _ :: rseqP K kidP (xs ++ x :: x2) (ts ++ t :: t2) = _ :: (rseqP K kidP xs ts ++ rtenP K kidP x t :: rseqP K kidP x2 t2)
    rw [rseqP_mid (by simpa using h)]
end
theorem sum_snoc (xs : List Int) (y : Int) : (xs ++ [y]).sum = xs.sum + y := by
  induction xs with
  | nil => simp
  | cons x xs ih => rw [List.cons_append, List.sum_cons, List.sum_cons, ih]; omega
def sp_l_tenants (K : PySem.W.Frag) : Nat → Sp
  | 0 => fun _ _ _ _ => False
  | n + 1 => fun vs H Q _ => ∃ (p nl : Addr) (names : List Str) (room : Int) (R : List HP), vs = [.ref p, .ref nl, .int room, .int (n : Int)] ∧ Sat H (PoolP p :: pt nl (.lst (names.map V.str)) :: R) ∧ (names = topN ∨ names = subN) ∧ 0 ≤ room ∧ room ≤ 8 ∧
    ∀ f (ts : List (TnS (Kid n))) H', Sat H' (rawP K (n + 1) f ts :: PoolP p :: pt nl (.lst (names.map V.str)) :: R) → TreeS (TreeOk n) names room ts → 1 ≤ ts.length → Tu H H' → Q (.ref f) H'
section
variable {σ : L2.St} {H : Hp} {t u : TT} {Q : Bool → Hp → Prop} {c : TT} {tu tw tz : TS} {D : Ends}
theorem of_ifT {A B : Prop} (h : A) : (if true = true then A else B) := h
theorem of_ifF {A B : Prop} (h : B) : (if false = true then A else B) := h
theorem t_andF (h : EvT t σ H false) (k : ∀ H1, Ex H H1 → Q false H1) : tAnd t u σ H Q := h H (Ex.refl _) _ fun H1 e1 => k H1 e1
theorem t_andT (h : EvT t σ H true) (k : ∀ H1, Ex H H1 → u σ H1 Q) : tAnd t u σ H Q := h H (Ex.refl _) _ fun H1 e1 => k H1 e1
theorem q_ifRaw (Pv : L2.St → Hp → Prop) (hc : ∀ nx : L2.St → Hp → Prop, (∀ σ' H', Pv σ' H' → nx σ' H') → c σ H fun b H1 => if b = true then tu { D with nx := nx } σ H1 else tw { D with nx := nx } σ H1) (k : ∀ σ' H', Pv σ' H' → tz D σ' H') : tSeq (tIfS c tu tw) tz D σ H := hc _ k
end

section
variable {P : Program} {w : World} {K : PySem.W.Frag} {mg : Str → Option Value} {base : Heap}
abbrev n_l_tenants : List Str := ["_law_pool", "_law_names", "_law_room", "_law_deep", "_law_found", "_law_name", "_law_share", "_law_what"]
theorem sc_l_tenants : FnScope n_l_tenants ["_law_pool", "_law_names", "_law_room", "_law_deep"] (defScope s_l_tenants) := C8.fnScope_by (by decide +kernel)

theorem ok_l_tenants {n k : Nat} (ih : C8.Cal P w K mg base k "_law_tenants" (sp_l_tenants K n) []) (T : Ctx K mg) : C8.Cal P w K mg base (k + 3) "_law_tenants" (sp_l_tenants K (n + 1)) [] := by
  refine cal_of T.f_l_tenants (T.glo _ (by decide)) (N := n_l_tenants) sc_l_tenants (fun _ _ _ _ _ _ us hl => match us, hl with | [_, _, _, _], _ => rfl) (fun vs H Q E h => ?len) (fun cdv A outer s H vs Q E hr h => ?body)
  case len =>
    obtain ⟨_, _, _, _, _, rfl, _⟩ := h
    rfl
  case body =>
    obtain ⟨p, nl, names, room, R, rfl, S, hnm, hr0, hr8, k'⟩ := h
    refine ⟨_, (pss_cons (ps_set (i := 4) sc_l_tenants.nd rfl (Or.inl rfl) (pe_lst pa_nil)) (pss_cons (ps_for PassesOwn.never (by rfl) (pi_listK (K := K) (pe_slice (sl_listK (K := K)) (pv 1) po_none (po_some (pe_op op_add pe_int (C8.pe_c (ok_l_draw T) hr (by omega) (by rfl) (pa_cons (pv 0) (pa_cons (pe_callB (call_len_seqK (K := K)) (by rfl) (T.free _ (by decide)) (by decide +kernel) (pa_cons (pv 1) pa_nil)) pa_nil))))))) (pg_name (i := 5) sc_l_tenants.nd rfl (Or.inl rfl)) (pss_cons (ps_set (i := 6) sc_l_tenants.nd rfl (Or.inl rfl) (C8.pe_c (ok_l_draw T) hr (by omega) (by rfl) (pa_cons (pv 0) (pa_cons (pe_op op_add (pv 2) pe_int) pa_nil)))) (pss_cons (ps_set (i := 2) sc_l_tenants.nd rfl (Or.inl rfl) (pe_op op_sub (pv 2) (pv 6))) (pss_cons (ps_set (i := 7) sc_l_tenants.nd rfl (Or.inl rfl) (C8.pe_c (ok_l_rule T) hr (by omega) (by rfl) (pa_cons (pv 0) pa_nil))) (pss_cons (ps_if (PW.pt (pw_and (pt_cmpR op_gt (pv 3) pe_int (by rfl)) (pw_and1 (pt_cmpR op_eq (C8.pe_c (ok_l_draw T) hr (by omega) (by rfl) (pa_cons (pv 0) (pa_cons pe_int pa_nil))) pe_int (by rfl))))) (pss_one (ps_set (i := 7) sc_l_tenants.nd rfl (Or.inl rfl) (pe_lst (pa_cons (C8.pe_c ih hr (by omega) (by rfl) (pa_cons (pv 0) (pa_cons (pe_lst (pa_cons pe_str (pa_cons pe_str pa_nil))) (pa_cons (pv 6) (pa_cons (pe_op op_sub (pv 3) pe_int) pa_nil))))) (pa_cons (C8.pe_c (ok_l_rule T) hr (by omega) (by rfl) (pa_cons (pv 0) pa_nil)) pa_nil))))) pss_nil) (pss_one (ps_expr (pe_bmK (K := K) PySem.F.plainAttrs_list PySem.F.slot_list_append PySem.F.type_list_append mt_append (pv 4) (pa_cons (pe_tup (pa_cons (pv 5) (pa_cons (pv 6) (pa_cons (pv 7) pa_nil)))) pa_nil))))))))) (pss_one (ps_ret (pv 4))))), ?_⟩
    have hnl : 1 ≤ names.length ∧ names.length ≤ 3 := by rcases hnm with rfl | rfl <;> exact ⟨by decide, by decide⟩
    refine q_asgL (xs := []) (el_lst ea_nil (Nat.zero_le _)) fun f H1 hf e1 h1 => ?_
    have S1 := S.grow hf e1 h1
    refine ⟨_, rfl, ?_⟩
    refine t_draw (size := (names.length : Int)) S1.swap rfl (ev_is (ev_len (ev_var rfl) (sq_of (S1.get 2 rfl))) (by rw [List.length_map])) (by omega) (by omega) fun n0 H2 hn0 hn1 S2 t2 => ⟨1, n0, rfl, rfl, _, rfl, nl, _, rfl, sq_of (S2.get 2 rfl), fun sl hsl => ?_⟩
    have hcut : cutV (names.map V.str) none (some (1 + n0)) = (names.take (1 + n0).toNat).map V.str := by rw [cut_to (by omega), List.map_take]
    rw [hcut]
    have hkl : (names.take (1 + n0).toNat).length ≤ 3 := by rw [List.length_take]; omega
    have hkl1 : 1 ≤ (names.take (1 + n0).toNat).length := by rw [List.length_take]; omega
    have hpre : ∃ k, names.take (1 + n0).toNat = names.take k := ⟨_, rfl⟩
    generalize names.take (1 + n0).toNat = nms at hkl hkl1 hpre ⊢
    have S3 := S2.new (o := .lst (nms.map V.str)) hsl
    have t3 : Tu H (upd H2 sl (.lst (nms.map V.str))) := ((Ex.tu e1).trans t2).trans (Tu.new hsl)
    generalize upd H2 sl (.lst (nms.map V.str)) = H3 at S3 t3 ⊢
    refine ⟨sl, rfl, ⟨_, sq_of (S3.get 0 rfl)⟩, for_it (walk_list (K := K) (a := sl) (xs := nms.map V.str)) (fun i σ' H' => ∃ (rm : Int) (a5 a6 a7 : Option V), σ' = [some (.ref p), some (.ref nl), some (.int rm), some (.int (n : Int)), some (.ref f), a5, a6, a7] ∧ Tu H3 H' ∧ 0 ≤ rm ∧ rm ≤ 8 ∧ ∃ (xs : List V) (ts : List (TnS (Kid n))),
        Sat H' (PoolP p :: pt sl (.lst (nms.map V.str)) :: pt f (.lst xs) :: al (rseqP K (rawP K n) xs ts) :: pt nl (.lst (names.map V.str)) :: R) ∧ xs.length = i ∧ ts.map (·.name) = nms.take i ∧ (ts.map (·.share)).sum = room - rm ∧ ∀ t ∈ ts, 0 ≤ t.share ∧ t.share ≤ 8 ∧ TreeW (TreeOk n) t.share t.what)
      ⟨room, _, _, _, rfl, Tu.refl _, hr0, hr8, [], [], ?_, rfl, rfl, by show (0 : Int) = room - room; omega, fun t ht => by simp at ht⟩ (fun i σ' H' _ q => sq_of (let ⟨_, _, _, _, _, _, _, _, _, _, S, _⟩ := q; S.get 1 rfl)) ?_ ?_⟩
    · exact ((((Sat.al (l' := [])).mpr S3).pull 3 rfl).pull 2 rfl).pull 3 rfl
    · rintro i x σ' H' H4 hi ⟨rm, a5, a6, a7, rfl, p1, p2, p3, xs, ts, p4, p5, p6, p7, p8⟩ ⟨rfl, hx⟩
      rw [List.getElem?_map] at hx
      obtain ⟨nm, hnm', rfl⟩ := Option.map_eq_some_iff.mp hx
      have hi3 : i < nms.length := (List.getElem?_eq_some_iff.mp hnm').1
      have htl : ts.length = i := by
        have := congrArg List.length p6
        rw [List.length_map, List.length_take] at this
        omega
      refine q_asgD ?_
      refine t_draw (size := rm + 1) p4 rfl (ev_op (ev_var rfl) ev_c rv_I0) (by omega) (by omega) fun sh H5 sh0 sh1 S5 t5 => ?_
      refine q_asg (v := .int (rm - sh)) (ev_op (ev_var rfl) (ev_var rfl) rv_I0) fun H6 e6 => ?_
      refine q_asgD ?_
      refine ⟨_, rfl, p, _, rfl, S5.same e6, fun r0 H7 r6 S7 t7 => ?_⟩
      refine q_ifRaw (fun σ' H' => ∃ (wv : V) (wt : What (Kid n)), σ' = [some (.ref p), some (.ref nl), some (.int (rm - sh)), some (.int (n : Int)), some (.ref f), some (.str nm), some (.int sh), some wv] ∧ Sat H' (rwhatP K (rawP K n) wv wt :: PoolP p :: pt sl (.lst (nms.map V.str)) :: pt f (.lst xs) :: al (rseqP K (rawP K n) xs ts) :: pt nl (.lst (names.map V.str)) :: R) ∧ TreeW (TreeOk n) sh wt ∧ Tu H7 H') ?_ ?_
      · intro nx hnx
        have plain : ∀ H8, Sat H8 (PoolP p :: pt sl (.lst (nms.map V.str)) :: pt f (.lst xs) :: al (rseqP K (rawP K n) xs ts) :: pt nl (.lst (names.map V.str)) :: R) → Tu H7 H8 → nx [some (.ref p), some (.ref nl), some (.int (rm - sh)), some (.int (n : Int)), some (.ref f), some (.str nm), some (.int sh), some (.ref (fR K r0))] H8 := fun H8 S8 t8 =>
          hnx _ _ ⟨.ref (fR K r0), .rule r0, rfl, Sat.pu.mpr ⟨⟨rfl, r6⟩, S8⟩, r6, t8⟩
        cases n with
        | zero => exact t_andF (et_is (et_test (ev_op (ev_var rfl) ev_c rv_I0)) rfl) fun H8 e8 => plain H8 (S7.same e8) (Ex.tu e8)
        | succ m =>
          refine t_andT (et_is (et_test (ev_op (ev_var rfl) ev_c rv_I0)) (decide_eq_true (by omega))) fun H8 e8 => ?_
          refine t_draw (size := 3) (S7.same e8) rfl ev_c (by decide) (by decide) fun dd H9 dd0 dd1 S9 t9 => ⟨rfl, _, rfl, ?_⟩
          have t79 : Tu H7 H9 := (Ex.tu e8).trans t9
          by_cases hdd : V.int dd = V.int 0
          · rw [decide_eq_true hdd]
            refine of_ifT ?_
            refine q_end ?_
            refine ⟨_, rfl, sz_of (by show 2 ≤ 100000; decide), fun l2 hl2 => ⟨_, rfl, _, rfl, _, _, rfl, rfl, ?_⟩⟩
            have S10 := (S9.new (o := .lst [.str "cy", .str "di"]) hl2).swap
            have hdeep : ((m + 1 : Nat) : Int) - 1 = (m : Int) := by omega
            refine ⟨p, l2, subN, sh, _, by show [V.ref p, .ref l2, .int sh, .int (((m + 1 : Nat) : Int) - 1)] = _; rw [hdeep], S10, .inr rfl, sh0, by omega, fun f2 l H11 S11 hTl hl1 t11 => ?_⟩
            refine ⟨_, rfl, p, _, rfl, S11.pull 1 rfl, fun r H12 hr6' S12 t12 => ⟨sz_of (by show 2 ≤ 100000; decide), fun q hq => ?_⟩⟩
            have S13 := S12.new (o := .lst [.ref f2, .ref (fR K r)]) hq
            have S14 : Sat (upd H12 q (.lst [.ref f2, .ref (fR K r)])) (rwhatP K (rawP K (m + 1)) (.ref q) (.kids l r) :: PoolP p :: pt sl (.lst (nms.map V.str)) :: pt f (.lst xs) :: al (rseqP K (rawP K (m + 1)) xs ts) :: pt nl (.lst (names.map V.str)) :: R) := by
              refine Sat.ex.mpr ⟨(q, f2), Sat.al.mpr (Sat.pu.mpr ⟨⟨rfl, hr6'⟩, ?_⟩)⟩
              have S15 : Sat (upd H12 q (.lst [.ref f2, .ref (fR K r)])) (pt q (.lst [.ref f2, .ref (fR K r)]) :: PoolP p :: rawP K (m + 1) f2 l :: pt l2 (.lst (subN.map V.str)) :: pt sl (.lst (nms.map V.str)) :: pt f (.lst xs) :: al (rseqP K (rawP K (m + 1)) xs ts) :: pt nl (.lst (names.map V.str)) :: R) := S13
              have S16 := (S15.pull 2 rfl).pull 1 rfl
              exact S16.sub ((((List.sublist_cons_self _ _).cons_cons _).cons_cons _).cons_cons _)
            exact hnx _ _ ⟨.ref q, .kids l r, rfl, S14, ⟨hr6', hTl⟩, (((t79.trans (Tu.new hl2)).trans t11).trans t12).trans (Tu.new hq)⟩
          · rw [decide_eq_false hdd]
            exact of_ifF (plain H9 S9 t79)
      · rintro σ' H8 ⟨wv, wt, rfl, S8, hW, t8⟩
        refine ⟨_, rfl, .inl ⟨rfl, xs, sq_of (S8.get 3 rfl)⟩, _, rfl, _, rfl, _, rfl, sz_of (by show 3 ≤ 100000; decide), fun t ht => ?_⟩
        have S9 := S8.same (Ex.new (o := .tup [.str nm, .int sh, wv]) ht)
        have htt : (upd H8 t (.tup [.str nm, .int sh, wv])) t = some (.tup [.str nm, .int sh, wv]) := upd_same
        refine ⟨f, xs, _, rfl, rfl, S9.get 3 rfl, sz_lt (by omega), ?_⟩
        have S10 := S9.put (o' := .lst (xs ++ [.ref t])) 3 rfl
        have tu10 : Tu (upd H8 t (.tup [.str nm, .int sh, wv])) (upd (upd H8 t (.tup [.str nm, .int sh, wv])) f (.lst (xs ++ [.ref t]))) := Tu.upd (S9.get 3 rfl)
        have htt2 := tu10 _ _ htt
        have hT := ((((t5.trans (Ex.tu e6)).trans t7).trans t8).trans (Tu.new (o := .tup [.str nm, .int sh, wv]) ht)).trans tu10
        generalize upd (upd H8 t (.tup [.str nm, .int sh, wv])) f (.lst (xs ++ [.ref t])) = H10 at S10 htt2 hT ⊢
        refine ⟨rm - sh, _, _, _, rfl, p1.trans hT, by omega, by omega, xs ++ [.ref t], ts ++ [⟨nm, sh, wt⟩], ?_, by rw [List.length_append, p5]; rfl, ?_, ?_, ?_⟩
        · rw [rseqP_snoc (by omega)]
          have S11 : Sat H10 (rtenP K (rawP K n) (.ref t) ⟨nm, sh, wt⟩ :: PoolP p :: pt sl (.lst (nms.map V.str)) :: pt f (.lst (xs ++ [.ref t])) :: al (rseqP K (rawP K n) xs ts) :: pt nl (.lst (names.map V.str)) :: R) :=
            Sat.ex.mpr ⟨(t, wv), Sat.al.mpr (Sat.pu.mpr ⟨rfl, Sat.tp.mpr ⟨htt2, S10⟩⟩)⟩
          have S12 := Sat.al.mp (S11.pull 4 rfl)
          have S13 : Sat H10 (al (rseqP K (rawP K n) xs ts ++ [rtenP K (rawP K n) (.ref t) ⟨nm, sh, wt⟩]) :: PoolP p :: pt sl (.lst (nms.map V.str)) :: pt f (.lst (xs ++ [.ref t])) :: pt nl (.lst (names.map V.str)) :: R) :=
            Sat.al.mpr (by rw [List.append_assoc]; exact S12)
          exact Sat.back (l := [_, _, _]) S13
        · rw [List.map_append, p6, List.take_add_one, hnm']
          rfl
        · rw [List.map_append, show ([⟨nm, sh, wt⟩] : List (TnS (Kid n))).map (·.share) = [sh] from rfl, sum_snoc, p7]
          omega
        · intro t' ht'
          rcases List.mem_append.mp ht' with a | a
          · exact p8 t' a
          · rw [List.mem_singleton.mp a]
            exact ⟨sh0, by show sh ≤ 8; omega, hW⟩
    · rintro σ' H' ⟨rm, a5, a6, a7, rfl, p1, p2, p3, xs, ts, p4, p5, p6, p7, p8⟩
      rw [List.length_map] at p5 p6
      have htl : ts.length = nms.length := by
        have := congrArg List.length p6
        rw [List.length_map, List.length_take] at this
        omega
      rw [List.take_length] at p6
      refine ⟨_, rfl, k' f ts H' ?_ ⟨?_, by omega, by rw [p7]; omega, p8, by omega⟩ (by omega) (t3.trans p1)⟩
      · refine Sat.ex.mpr ⟨xs, Sat.al.mpr ?_⟩
        have S5 := Sat.al.mp (p4.pull 3 rfl)
        have S6 : Sat H' (rseqP K (rawP K n) xs ts ++ PoolP p :: pt f (.lst xs) :: pt nl (.lst (names.map V.str)) :: R) := S5.sub (List.Sublist.append (List.Sublist.refl _) ((List.sublist_cons_self _ _).cons_cons _))
        have S7 := S6.perm (List.Perm.append_left _ (List.Perm.swap _ _ _))
        exact Sat.fore S7
      · obtain ⟨kk, hk⟩ := hpre
        exact ⟨kk, by rw [p6, hk]⟩
end
end N32
set_option Elab.async false
set_option linter.all false
set_option maxRecDepth 100000
set_option maxHeartbeats 4000000

namespace N32
open PySem PySem.Spec PyProof.Rows L2 Evl
section
variable {K : PySem.W.Frag} {α : Type} {H : Hp} {R : List HP}
theorem split_at {β : Type} {l : List β} {i : Nat} {x : β} (h : l[i]? = some x) : l = l.take i ++ x :: l.drop (i + 1) := by
  obtain ⟨h1, h2⟩ := List.getElem?_eq_some_iff.mp h
  rw [← h2, ← List.drop_eq_getElem_cons h1, List.take_append_drop]
theorem rseq_focus {kidP : Addr → List α → HP} {ys y1 y2 : List V} {ts t1 t2 : List (TnS α)} {v : V} {t : TnS α} (e1 : ys = y1 ++ v :: y2) (e2 : ts = t1 ++ t :: t2) (hl : y1.length = t1.length) :
    Sat H (al (rseqP K kidP ys ts) :: R) ↔ Sat H (rtenP K kidP v t :: (rseqP K kidP y1 t1 ++ rseqP K kidP y2 t2 ++ R)) := by
  rw [Sat.al, e1, e2, rseqP_mid hl]
  have p : ((rseqP K kidP y1 t1 ++ rtenP K kidP v t :: rseqP K kidP y2 t2) ++ R).Perm (rtenP K kidP v t :: (rseqP K kidP y1 t1 ++ rseqP K kidP y2 t2 ++ R)) := by
    rw [List.append_assoc, List.append_assoc]
    exact List.perm_middle
  exact ⟨fun h => h.perm p, fun h => h.perm p.symm⟩
theorem seqP_snoc {kidP : Addr → List α → HP} {x : V} {t : TnS α} : ∀ {xs : List V} {ts : List (TnS α)}, xs.length = ts.length → seqP K kidP (xs ++ [x]) (ts ++ [t]) = seqP K kidP xs ts ++ [tenP K kidP x t]
  | [], [], _ => rfl
  | [], _ :: _, h => by simp at h
  | _ :: _, [], h => by simp at h
  | y :: xs, u :: ts, h => by
    show _ :: seqP K kidP (xs ++ [x]) (ts ++ [t]) = _ :: (seqP K kidP xs ts ++ [tenP K kidP x t])
    rw [seqP_snoc (by simpa using h)]
end
def sp_l_of (K : PySem.W.Frag) : Nat → Sp
  | 0 => fun _ _ _ _ => False
  | n + 1 => fun vs H Q _ => ∃ (f : Addr) (ts : List (TnS (Kid n))) (names : List Str) (room : Int) (R : List HP), vs = [.ref f] ∧ Sat H (rawP K (n + 1) f ts :: R) ∧ TreeS (TreeOk n) names room ts ∧
    ∀ g xs H', Sat H' (pt g (.lst xs) :: al (seqP K (kidsP K n) xs ts) :: rawP K (n + 1) f ts :: R) → Tu H H' → Q (.ref g) H'

section
variable {P : Program} {w : World} {K : PySem.W.Frag} {mg : Str → Option Value} {base : Heap}
abbrev n_l_of : List Str := ["_law_tenants_here", "_law_found", "_law_name", "_law_share", "_law_what"]
theorem sc_l_of : FnScope n_l_of ["_law_tenants_here"] (defScope s_l_of) := C8.fnScope_by (by decide +kernel)

theorem ok_l_of {n k : Nat} (hk6 : 6 ≤ k) (ih : C8.Cal P w K mg base k "_law_of" (sp_l_of K n) []) (T : Ctx K mg) : C8.Cal P w K mg base (k + 1) "_law_of" (sp_l_of K (n + 1)) [] := by
  refine cal_of T.f_l_of (T.glo _ (by decide)) (N := n_l_of) sc_l_of (fun _ _ _ _ _ _ us hl => match us, hl with | [_], _ => rfl) (fun vs H Q E h => ?len) (fun cdv A outer s H vs Q E hr h => ?body)
  case len =>
    obtain ⟨_, _, _, _, _, rfl, _⟩ := h
    rfl
  case body =>
    obtain ⟨f, ts, names, room, R, rfl, S, hTr, k'⟩ := h
    refine ⟨_, (pss_cons (ps_set (i := 1) sc_l_of.nd rfl (Or.inl rfl) (pe_lst pa_nil)) (pss_cons (ps_for PassesOwn.never (by rfl) (pi_listK (K := K) (pv 0)) (pg_tupK (K := K) (n := 3) (by rfl) (pgs_cons (pg_name (i := 2) sc_l_of.nd rfl (Or.inl rfl)) (pgs_cons (pg_name (i := 3) sc_l_of.nd rfl (Or.inl rfl)) (pgs_cons (pg_name (i := 4) sc_l_of.nd rfl (Or.inl rfl)) pgs_nil)))) (pss_cons (ps_if (pt_val (pe_callB (call_isiF (K := K)) (by rfl) (T.free _ (by decide)) (by decide +kernel) (pa_cons (pv 4) (pa_cons (pe_bltn (v := .ty "list") (by rfl) (T.free _ (by decide)) (by decide +kernel) rfl) pa_nil)))) (pss_one (ps_set (i := 4) sc_l_of.nd rfl (Or.inl rfl) (pe_mkK (ok_Group_init T) hr (by omega) (by rfl) (pa_cons (C8.pe_c ih hr (by omega) (by rfl) (pa_cons (pe_ix (ix_listK (K := K)) (pv 4) pe_int (fun _ _ => rfl)) pa_nil)) pa_nil) (pk_cons (pe_ix (ix_listK (K := K)) (pv 4) pe_int (fun _ _ => rfl)) pk_nil)))) pss_nil) (pss_one (ps_expr (pe_bmK (K := K) PySem.F.plainAttrs_list PySem.F.slot_list_append PySem.F.type_list_append mt_append (pv 1) (pa_cons (pe_tup (pa_cons (pv 2) (pa_cons (pv 3) (pa_cons (pv 4) pa_nil)))) pa_nil)))))) (pss_one (ps_ret (pv 1))))), ?_⟩
    refine q_asgL (xs := []) (el_lst ea_nil (Nat.zero_le _)) fun g H1 hg e1 h1 => ?_
    obtain ⟨ys, S0⟩ := Sat.ex.mp S
    have S0 : Sat H (pt f (.lst ys) :: (rseqP K (rawP K n) ys ts ++ R)) := Sat.al.mp S0
    have hyl : ys.length = ts.length := rseqP_len S0.tail
    have h8 := hTr.len
    have S0b : Sat H (pt f (.lst ys) :: al (rseqP K (rawP K n) ys ts) :: R) := Sat.swap (Sat.al.mpr (Sat.back (l := rseqP K (rawP K n) ys ts) S0))
    have S1 : Sat H1 (pt g (.lst []) :: al (seqP K (kidsP K n) [] (ts.take 0)) :: pt f (.lst ys) :: al (rseqP K (rawP K n) ys ts) :: R) := Sat.swap ((Sat.al (l' := [])).mpr (S0b.grow hg e1 h1))
    refine q_forL (g := gTup K 3 (fun xs σ H Q => ∃ x r, xs = x :: r ∧ gName 2 x σ H fun σ H => ∃ x r', r = x :: r' ∧ gName 3 x σ H fun σ H => ∃ x r'', r' = x :: r'' ∧ gName 4 x σ H fun σ H => r'' = [] ∧ Q σ H)) (ev_var rfl) (sq_of (S1.get 2 rfl)) (fun i σ' H' => (∃ a2 a3 a4, σ' = [some (.ref f), some (.ref g), a2, a3, a4]) ∧ Tu H1 H' ∧ ∃ xs, xs.length = i ∧ Sat H' (pt g (.lst xs) :: al (seqP K (kidsP K n) xs (ts.take i)) :: pt f (.lst ys) :: al (rseqP K (rawP K n) ys ts) :: R))
      (fun H2 e2 => ⟨⟨_, _, _, rfl⟩, Ex.tu e2, [], rfl, S1.same e2⟩) (fun i σ' H' _ q => sq_of (let ⟨_, _, _, _, S⟩ := q; S.get 2 rfl)) ?_ ?_
    · rintro i v σ' H' hv ⟨⟨a2, a3, a4, rfl⟩, p1, xs, p2, p3⟩
      have hi : i < ts.length := by rw [← hyl]; exact (List.getElem?_eq_some_iff.mp hv).1
      obtain ⟨t, ht⟩ : ∃ t, ts[i]? = some t := ⟨_, List.getElem?_eq_getElem hi⟩
      have hlt : (ys.take i).length = (ts.take i).length := by rw [List.length_take, List.length_take, hyl]
      have htm := List.mem_of_getElem? ht
      have htW := (hTr.ten t htm).2.2
      have S2 := (rseq_focus (split_at hv) (split_at ht) hlt).mp (p3.pull 3 rfl)
      obtain ⟨⟨a, wv⟩, S3⟩ := Sat.ex.mp S2
      obtain ⟨rfl, S4⟩ := Sat.pu.mp (Sat.al.mp S3)
      obtain ⟨hta, S5⟩ := Sat.tp.mp S4
      have S5 : Sat H' (rwhatP K (rawP K n) wv t.what :: (rseqP K (rawP K n) (ys.take i) (ts.take i) ++ rseqP K (rawP K n) (ys.drop (i + 1)) (ts.drop (i + 1)) ++ (pt g (.lst xs) :: al (seqP K (kidsP K n) xs (ts.take i)) :: pt f (.lst ys) :: R))) := S5
      refine ⟨a, _, rfl, st_of hta, rfl, _, _, rfl, _, _, rfl, _, _, rfl, rfl, ?_⟩
      have ht1 : ts.take (i + 1) = ts.take i ++ [t] := by rw [List.take_add_one, ht]; rfl
      have hxl : xs.length = (ts.take i).length := by rw [List.length_take]; omega
      -- after the choice
      refine q_ifRaw (fun σ' H'' => ∃ wg, σ' = [some (.ref f), some (.ref g), some (.str t.name), some (.int t.share), some wg] ∧ Tu H' H'' ∧ Sat H'' (whatP K (kidsP K n) wg t.what :: pt g (.lst xs) :: al (seqP K (kidsP K n) xs (ts.take i)) :: pt f (.lst ys) :: al (rseqP K (rawP K n) ys ts) :: R)) ?_ ?_
      · intro nx hnx
        obtain ⟨nm, sh, wt⟩ := t
        cases wt with
        | rule r =>
          obtain ⟨⟨rfl, h6⟩, S6⟩ := Sat.pu.mp S5
          obtain ⟨o, ho1, ho2⟩ := T.ruleT r h6
          refine (et_B (b := false) (ev_isi (ev_var rfl) (.ty "list") (fun _ _ => .fn ho1 ho2) (kit_ty (by decide +kernel)))) H' (Ex.refl _) _ fun H2 e2 => of_ifF (hnx _ _ ⟨_, rfl, Ex.tu e2, Sat.pu.mpr ⟨⟨rfl, h6⟩, p3.same e2⟩⟩)
        | kids l r =>
          obtain ⟨⟨q, l'⟩, S6⟩ := Sat.ex.mp S5
          obtain ⟨⟨rfl, h6⟩, S7⟩ := Sat.pu.mp (Sat.al.mp S6)
          have S7 : Sat H' (pt q (.lst [.ref l', .ref (fR K r)]) :: rawP K n l' l :: (rseqP K (rawP K n) (ys.take i) (ts.take i) ++ rseqP K (rawP K n) (ys.drop (i + 1)) (ts.drop (i + 1)) ++ (pt g (.lst xs) :: al (seqP K (kidsP K n) xs (ts.take i)) :: pt f (.lst ys) :: R))) := S7
          refine (et_B (b := true) (ev_isi (ev_var rfl) (.ty "list") (fun _ e => ty_lst (e _ _ (S7.get 0 rfl))) (kit_ty (by decide +kernel)))) H' (Ex.refl _) _ fun H2 e2 => of_ifT ?_
          cases n with
          | zero => exact (Sat.pu.mp S7.tail).1.elim
          | succ m =>
            have S8 := S7.same e2
            refine q_end ?_
            refine (ev_op (ta := tVar 4) (tb := tC (.int 0)) (ev_var rfl) ev_c (rv_ixL (K := K) (sq_of (S8.get 0 rfl)) (v := .ref l') (at_of (j := 0) rfl rfl))) H2 (Ex.refl _) _ fun H3 e3 => ?_
            have hTl : TreeS (TreeOk m) subN sh l := htW.2
            refine ⟨l', l, subN, sh, _, rfl, (S8.same e3).swap, hTl, fun g2 xs2 H4 S9 t4 => ?_⟩
            refine (ev_op (ta := tVar 4) (tb := tC (.int 1)) (ev_var rfl) ev_c (rv_ixL (K := K) (sq_of (S9.get 3 rfl)) (v := .ref (fR K r)) (at_of (j := 1) rfl rfl))) H4 (Ex.refl _) _ fun H5 e5 => ⟨rfl, rfl, fun x dx hx hdx hne => ?_⟩
            have S10 := (S9.same e5).made (C := He.ga K "Group") hx hdx hne
            have t10 : Tu H4 (upd (upd H5 dx (.own x)) x (.ins (He.ga K "Group") dx [])) := (Ex.tu e5).trans ((Tu.new hdx).trans (Tu.new (by rw [upd_ne hne.symm]; exact hx)))
            have hnms := hTl.names (by decide) subN_in
            have hTen : TenL K (kidsV K m) (upd (upd H5 dx (.own x)) x (.ins (He.ga K "Group") dx [])) xs2 l := by
              obtain ⟨G, F1, F2, g1, _⟩ := S10.pull 2 rfl
              exact seqP_on (fun u l F h => kidsP_on h) g1
            refine ⟨x, dx, g2, m, r, xs2, l, _, rfl, S10, hTen, hTl.len, hnms.1, fun t ht => ⟨hnms.2 t ht, (hTl.ten t ht).1, by have := (hTl.ten t ht).2.1; omega⟩, h6, fun u H6 S11 hu t6 => ⟨rfl, ?_⟩⟩
            refine hnx _ _ ⟨.ref x, rfl, (((Ex.tu (e2.trans e3)).trans t4).trans t10).trans t6, ?_⟩
            have S12 : Sat H6 (pt x (.ins (He.ga K "Group") dx [("own_tenants", .ref u), ("own_lending", .ref (fR K r))]) :: pt g2 (.lst xs2) :: al (seqP K (kidsP K m) xs2 l) :: rawP K (m + 1) l' l :: pt q (.lst [.ref l', .ref (fR K r)]) :: (rseqP K (rawP K (m + 1)) (ys.take i) (ts.take i) ++ rseqP K (rawP K (m + 1)) (ys.drop (i + 1)) (ts.drop (i + 1)) ++ (pt g (.lst xs) :: al (seqP K (kidsP K (m + 1)) xs (ts.take i)) :: pt f (.lst ys) :: R))) := S11
            have hta6 : H6 a = some (.tup [.str nm, .int sh, .ref q]) := ((((Ex.tu (e2.trans e3)).trans t4).trans t10).trans t6) _ _ hta
            -- the group
            have S13 : Sat H6 (kidsP K (m + 1) u l :: rawP K (m + 1) l' l :: pt q (.lst [.ref l', .ref (fR K r)]) :: pt x (.ins (He.ga K "Group") dx [("own_tenants", .ref u), ("own_lending", .ref (fR K r))]) :: (rseqP K (rawP K (m + 1)) (ys.take i) (ts.take i) ++ rseqP K (rawP K (m + 1)) (ys.drop (i + 1)) (ts.drop (i + 1)) ++ (pt g (.lst xs) :: al (seqP K (kidsP K (m + 1)) xs (ts.take i)) :: pt f (.lst ys) :: R))) := by
              have A := ((S12.pull 1 rfl).tail.pull 1 rfl)
              have B := A.perm (.cons _ ((List.Perm.swap _ _ _).trans (.cons _ (.swap _ _ _))))
              exact Sat.ex.mpr ⟨xs2, Sat.al.mpr (Sat.tp.mpr ⟨hu, Sat.pu.mpr ⟨hTl.len, Sat.al.mp B⟩⟩)⟩
            have S14 : Sat H6 (whatP K (kidsP K (m + 1)) (.ref x) (.kids l r) :: rawP K (m + 1) l' l :: pt q (.lst [.ref l', .ref (fR K r)]) :: (rseqP K (rawP K (m + 1)) (ys.take i) (ts.take i) ++ rseqP K (rawP K (m + 1)) (ys.drop (i + 1)) (ts.drop (i + 1)) ++ (pt g (.lst xs) :: al (seqP K (kidsP K (m + 1)) xs (ts.take i)) :: pt f (.lst ys) :: R))) := by
              refine Sat.ex.mpr ⟨(x, dx, u), Sat.al.mpr (Sat.pu.mpr ⟨rfl, ?_⟩)⟩
              exact (S13.pull 3 rfl)
            -- the raw one closed again
            have S15 : Sat H6 (rtenP K (rawP K (m + 1)) (.ref a) ⟨nm, sh, .kids l r⟩ :: (rseqP K (rawP K (m + 1)) (ys.take i) (ts.take i) ++ rseqP K (rawP K (m + 1)) (ys.drop (i + 1)) (ts.drop (i + 1)) ++ (whatP K (kidsP K (m + 1)) (.ref x) (.kids l r) :: pt g (.lst xs) :: al (seqP K (kidsP K (m + 1)) xs (ts.take i)) :: pt f (.lst ys) :: R))) := by
              refine Sat.ex.mpr ⟨(a, .ref q), Sat.al.mpr (Sat.pu.mpr ⟨rfl, Sat.tp.mpr ⟨hta6, Sat.ex.mpr ⟨(q, l'), Sat.al.mpr (Sat.pu.mpr ⟨⟨rfl, h6⟩, ?_⟩)⟩⟩⟩)⟩
              have A : Sat H6 (whatP K (kidsP K (m + 1)) (.ref x) (.kids l r) :: pt q (.lst [.ref l', .ref (fR K r)]) :: rawP K (m + 1) l' l :: (rseqP K (rawP K (m + 1)) (ys.take i) (ts.take i) ++ rseqP K (rawP K (m + 1)) (ys.drop (i + 1)) (ts.drop (i + 1)) ++ (pt g (.lst xs) :: al (seqP K (kidsP K (m + 1)) xs (ts.take i)) :: pt f (.lst ys) :: R))) := S14.perm (.cons _ (.swap _ _ _))
              exact Sat.back (l := pt q (.lst [.ref l', .ref (fR K r)]) :: rawP K (m + 1) l' l :: (rseqP K (rawP K (m + 1)) (ys.take i) (ts.take i) ++ rseqP K (rawP K (m + 1)) (ys.drop (i + 1)) (ts.drop (i + 1)))) A
            have S16 := (rseq_focus (split_at hv) (split_at ht) hlt).mpr S15
            exact Sat.back (l := [_, _, _, _]) S16
      · rintro σ' H2 ⟨wg, rfl, t2, S6⟩
        refine ⟨_, rfl, .inl ⟨rfl, xs, sq_of (S6.get 1 rfl)⟩, _, rfl, _, rfl, _, rfl, sz_of (by show 3 ≤ 100000; decide), fun b hb => ?_⟩
        have S7 := S6.same (Ex.new (o := .tup [.str t.name, .int t.share, wg]) hb)
        refine ⟨g, xs, _, rfl, rfl, S7.get 1 rfl, sz_lt (by omega), ?_⟩
        have S8 := S7.put (o' := .lst (xs ++ [.ref b])) 1 rfl
        have t8 : Tu (upd H2 b (.tup [.str t.name, .int t.share, wg])) (upd (upd H2 b (.tup [.str t.name, .int t.share, wg])) g (.lst (xs ++ [.ref b]))) := Tu.upd (S7.get 1 rfl)
        have hbb := t8 _ _ (show (upd H2 b (.tup [.str t.name, .int t.share, wg])) b = some (.tup [.str t.name, .int t.share, wg]) from upd_same)
        refine ⟨⟨_, _, _, rfl⟩, ((p1.trans t2).trans (Tu.new hb)).trans t8, xs ++ [.ref b], by rw [List.length_append, p2]; rfl, ?_⟩
        rw [ht1, seqP_snoc hxl]
        generalize upd (upd H2 b (.tup [.str t.name, .int t.share, wg])) g (.lst (xs ++ [.ref b])) = H3 at S8 hbb ⊢
        have S9 : Sat H3 (tenP K (kidsP K n) (.ref b) t :: pt g (.lst (xs ++ [.ref b])) :: al (seqP K (kidsP K n) xs (ts.take i)) :: pt f (.lst ys) :: al (rseqP K (rawP K n) ys ts) :: R) :=
          Sat.ex.mpr ⟨(b, wg), Sat.al.mpr (Sat.pu.mpr ⟨rfl, Sat.tp.mpr ⟨hbb, S8⟩⟩)⟩
        have S10 := Sat.al.mp (S9.pull 2 rfl)
        have S11 : Sat H3 (al (seqP K (kidsP K n) xs (ts.take i) ++ [tenP K (kidsP K n) (.ref b) t]) :: pt g (.lst (xs ++ [.ref b])) :: pt f (.lst ys) :: al (rseqP K (rawP K n) ys ts) :: R) := Sat.al.mpr (by rw [List.append_assoc]; exact S10)
        exact S11.swap
    · rintro σ' H' ⟨⟨a2, a3, a4, rfl⟩, p1, xs, p2, p3⟩
      rw [show ts.take ys.length = ts by rw [hyl, List.take_length]] at p3
      refine ⟨_, rfl, k' g xs H' ?_ ((Ex.tu e1).trans p1)⟩
      have S2 := p3.perm (l' := pt g (.lst xs) :: al (seqP K (kidsP K n) xs ts) :: al (rseqP K (rawP K n) ys ts) :: pt f (.lst ys) :: R) (.cons _ (.cons _ (.swap _ _ _)))
      have S3 := S2.pull 2 rfl
      have S4 : Sat H' (rawP K (n + 1) f ts :: pt g (.lst xs) :: al (seqP K (kidsP K n) xs ts) :: R) := by
        refine Sat.ex.mpr ⟨ys, Sat.al.mpr ?_⟩
        have A := Sat.al.mp S3
        exact Sat.fore (A.perm (List.Perm.append_left _ ((List.Perm.cons _ (.swap _ _ _)).trans (.swap _ _ _))) )
      exact Sat.back (l := [_, _]) S4
end
end N32
set_option Elab.async false
set_option linter.all false
set_option maxRecDepth 100000
set_option maxHeartbeats 4000000

namespace N32
open PySem PySem.Spec PyProof.Rows L2 Evl
section
variable {K : PySem.W.Frag} {α : Type}
def rwhatV (K : PySem.W.Frag) (kids : Hp → Addr → List α → Prop) (H : Hp) (w : V) : What α → Prop
  | .rule r => w = .ref (fR K r) ∧ r < 6
  | .kids l r => ∃ q l', w = .ref q ∧ H q = some (.lst [.ref l', .ref (fR K r)]) ∧ kids H l' l
structure RTenL (K : PySem.W.Frag) (kids : Hp → Addr → List α → Prop) (H : Hp) (xs : List V) (ts : List (TnS α)) : Prop where
  len : xs.length = ts.length
  at_ : ∀ (i : Nat) (x : V) (t : TnS α), xs[i]? = some x → ts[i]? = some t → ∃ a w, x = .ref a ∧ H a = some (.tup [.str t.name, .int t.share, w]) ∧ rwhatV K kids H w t.what
def rawV (K : PySem.W.Frag) : (n : Nat) → Hp → Addr → List (Kid n) → Prop
  | 0 => fun _ _ _ => False
  | n + 1 => fun H f ts => ∃ xs, H f = some (.lst xs) ∧ RTenL K (rawV K n) H xs ts
theorem rwhatV.ex {kids : Hp → Addr → List α → Prop} {H H' : Hp} {w : V} {wt : What α} (hk : ∀ u l, kids H u l → kids H' u l) (h : rwhatV K kids H w wt) (e : Ex H H') : rwhatV K kids H' w wt := by
  cases wt with
  | rule r => exact h
  | kids l r => obtain ⟨q, l', q1, q2, q3⟩ := h; exact ⟨q, l', q1, e _ _ q2, hk _ _ q3⟩
theorem RTenL.ex {kids : Hp → Addr → List α → Prop} {H H' : Hp} {xs : List V} {ts : List (TnS α)} (hk : ∀ u l, kids H u l → kids H' u l) (h : RTenL K kids H xs ts) (e : Ex H H') : RTenL K kids H' xs ts :=
  ⟨h.len, fun i x t a b => let ⟨c, w, h1, h2, h3⟩ := h.at_ i x t a b; ⟨c, w, h1, e _ _ h2, h3.ex hk e⟩⟩
theorem rawV_ex : ∀ {n : Nat} {H H' : Hp} {f : Addr} {l : List (Kid n)}, rawV K n H f l → Ex H H' → rawV K n H' f l
  | 0, _, _, _, _, h, _ => h
  | n + 1, H, H', f, l, ⟨xs, h1, h2⟩, e => ⟨xs, e _ _ h1, h2.ex (fun u l q => rawV_ex q e) e⟩
theorem RTenL.get {kids : Hp → Addr → List α → Prop} {H : Hp} {xs : List V} {ts : List (TnS α)} (E : RTenL K kids H xs ts) {i : Nat} {x : V} (h : xs[i]? = some x) : ∃ t, ts[i]? = some t ∧ ∃ a w, x = .ref a ∧ H a = some (.tup [.str t.name, .int t.share, w]) ∧ rwhatV K kids H w t.what := by
  have hi : i < ts.length := by rw [← E.len]; exact (List.getElem?_eq_some_iff.mp h).1
  exact ⟨ts[i], List.getElem?_eq_getElem hi, E.at_ i x _ h (List.getElem?_eq_getElem hi)⟩
theorem rwhatP_on {kidP : Addr → List α → HP} {kids : Hp → Addr → List α → Prop} {H : Hp} (hk : ∀ u l F, (kidP u l).on H F → kids H u l) {w : V} {wt : What α} {F : Fp} (h : (rwhatP K kidP w wt).on H F) : rwhatV K kids H w wt := by
  cases wt with
  | rule r => exact h.1
  | kids l r =>
    obtain ⟨⟨q, l'⟩, F1, F2, h1, ⟨F3, F4, h3, ⟨F5, F6, h5, _⟩, _⟩, _⟩ := h
    exact ⟨q, l', h1.1.1, h3.1, hk _ _ _ h5⟩
theorem rseqP_on {kidP : Addr → List α → HP} {kids : Hp → Addr → List α → Prop} {H : Hp} (hk : ∀ u l F, (kidP u l).on H F → kids H u l) : ∀ {xs : List V} {ts : List (TnS α)} {F : Fp}, SatF H (rseqP K kidP xs ts) F → RTenL K kids H xs ts
  | [], [], _, _ => ⟨rfl, fun i x t h => by simp at h⟩
  | [], _ :: _, _, ⟨_, _, h, _⟩ => h.1.elim
  | _ :: _, [], _, ⟨_, _, h, _⟩ => h.1.elim
  | x :: xs, t :: ts, F, ⟨F1, F2, h1, h2, _⟩ => by
    have ih := rseqP_on hk h2
    refine ⟨by rw [List.length_cons, List.length_cons, ih.len], fun i y u a b => ?_⟩
    cases i with
    | zero =>
      cases a; cases b
      obtain ⟨⟨c, w⟩, F1, F2, h1, ⟨F3, F4, h3, ⟨F5, F6, h5, _⟩, _⟩, _⟩ := h1
      exact ⟨c, w, h1.1, h3.1, rwhatP_on hk h5⟩
    | succ i => exact ih.at_ i y u a b
theorem rawP_on : ∀ {n : Nat} {H : Hp} {f : Addr} {l : List (Kid n)} {F : Fp}, (rawP K n f l).on H F → rawV K n H f l
  | 0, _, _, _, _, h => h.1
  | n + 1, H, f, l, F, ⟨xs, F1, F2, h1, h2, _⟩ => ⟨xs, h1.1, rseqP_on (fun u l F h => rawP_on h) h2⟩
theorem Sat.rawV {n : Nat} {H : Hp} {f : Addr} {l : List (Kid n)} {R : List HP} (h : Sat H (rawP K n f l :: R)) : N32.rawV K n H f l := let ⟨_, _, _, h1, _⟩ := h; rawP_on h1
end
/-- the paths of the leaves -/
def pathsT {α : Type} (f : List α → List Str) (t : TnS α) : List Str := match t.what with
  | .rule _ => [t.name]
  | .kids l _ => (f l).map fun p => t.name ++ "/" ++ p
def pathsS {α : Type} (f : List α → List Str) (ts : List (TnS α)) : List Str := ts.flatMap (pathsT f)
def pathsR : (n : Nat) → List (Kid n) → List Str
  | 0 => fun _ => []
  | n + 1 => fun ts => pathsS (pathsR n) ts
theorem leavesS_paths {α : Type} {f : List α → Str → List Str} {g : List α → List Str} (h : ∀ l above, f l above = (g l).map fun p => above ++ p) (ts : List (TnS α)) (above : Str) : leavesS f ts above = (pathsS g ts).map fun p => above ++ p := by
  unfold leavesS pathsS
  rw [List.map_flatMap]
  congr 1
  funext t
  unfold leavesT pathsT
  cases t.what with
  | rule r => rfl
  | kids l r =>
    show f l _ = ((g l).map _).map _
    rw [h, List.map_map]
    apply List.map_congr_left
    intro p _
    show above ++ t.name ++ "/" ++ p = above ++ (t.name ++ "/" ++ p)
    rw [Str.append_assoc, Str.append_assoc, Str.append_assoc]
theorem leavesK_paths : ∀ (n : Nat) (ts : List (Kid n)) (above : Str), leavesK n ts above = (pathsR n ts).map fun p => above ++ p
  | 0, _, _ => rfl
  | n + 1, ts, above => leavesS_paths (fun l above => leavesK_paths n l above) ts above
theorem pathsS_len {n : Nat} {names : List Str} {room : Int} {ts : List (TnS (Kid n))} (h : TreeS (TreeOk n) names room ts) (i : Nat) : (pathsS (pathsR n) (ts.take i)).length ≤ 8 * 8 ^ n := by
  have h1 := leavesS_len (g := TreeOk n) (f := leavesK n) (b := 8 ^ n) (above := "") (Nat.pow_pos (by decide)) (fun names room l above q => leavesK_len n names room l above q) (ts := ts.take i) fun t ht => by
    have := (h.ten t (List.mem_of_mem_take ht)).2.2
    cases hw : t.what with
    | rule r => trivial
    | kids l r => rw [hw] at this; exact ⟨_, _, this.2⟩
  rw [leavesS_paths (fun l above => leavesK_paths n l above), List.length_map] at h1
  refine Nat.le_trans h1 (Nat.mul_le_mul_right _ ?_)
  rw [List.length_take]
  have := h.len
  omega
theorem pathsR_bd : ∀ (n : Nat) (names : List Str) (room : Int) (ts : List (Kid n)), TreeOk n names room ts → (∀ x ∈ names, x ∈ namesL) → ∀ p ∈ pathsR n ts, p.length ≤ 9 * n
  | 0, _, _, _, h, _, _, _ => h.elim
  | n + 1, names, room, ts, h, hn, p, hp => by
    have h : TreeS (TreeOk n) names room ts := h
    have hp : p ∈ pathsS (pathsR n) ts := hp
    obtain ⟨t, ht, hpt⟩ := List.mem_flatMap.mp hp
    have h1 := h.name hn ht
    have h2 := (h.ten t ht).2.2
    unfold pathsT at hpt
    cases hw : t.what with
    | rule r =>
      rw [hw] at hpt
      rw [List.mem_singleton.mp hpt]
      omega
    | kids l r =>
      rw [hw] at hpt h2
      obtain ⟨q, hq, rfl⟩ := List.mem_map.mp hpt
      have h3 := pathsR_bd n subN t.share l h2.2 subN_in q hq
      rw [Str.length_append, Str.length_append]
      have : ("/" : Str).length = 1 := rfl
      omega
theorem pathsS_take {α : Type} {f : List α → List Str} {ts : List (TnS α)} {i : Nat} {t : TnS α} (h : ts[i]? = some t) : pathsS f (ts.take (i + 1)) = pathsS f (ts.take i) ++ pathsT f t := by
  unfold pathsS
  rw [List.take_add_one, h, List.flatMap_append]
  simp
def sp_l_paths (K : PySem.W.Frag) : Nat → Sp
  | 0 => fun _ _ _ _ => False
  | n + 1 => fun vs H Q _ => ∃ (f : Addr) (ts : List (TnS (Kid n))) (names : List Str) (room : Int), vs = [.ref f] ∧ rawV K (n + 1) H f ts ∧ TreeS (TreeOk n) names room ts ∧ (∀ x ∈ names, x ∈ namesL) ∧ n ≤ 3 ∧ RetL ((pathsS (pathsR n) ts).map V.str) H Q

section
variable {P : Program} {w : World} {K : PySem.W.Frag} {mg : Str → Option Value} {base : Heap}
abbrev n_l_paths : List Str := ["_law_tenants_here", "_law_found", "_law_name", "_law_share", "_law_what", "_law_path"]
theorem sc_l_paths : FnScope n_l_paths ["_law_tenants_here"] (defScope s_l_paths) := C8.fnScope_by (by decide +kernel)

theorem ok_l_paths {n k : Nat} (ih : C8.Cal P w K mg base k "_law_paths" (sp_l_paths K n) []) (T : Ctx K mg) : C8.Cal P w K mg base (k + 3) "_law_paths" (sp_l_paths K (n + 1)) [] := by
  refine cal_of T.f_l_paths (T.glo _ (by decide)) (N := n_l_paths) sc_l_paths (fun _ _ _ _ _ _ us hl => match us, hl with | [_], _ => rfl) (fun vs H Q E h => ?len) (fun cdv A outer s H vs Q E hr h => ?body)
  case len =>
    obtain ⟨_, _, _, _, rfl, _⟩ := h
    rfl
  case body =>
    obtain ⟨f, ts, names, room, rfl, ⟨ys, hf, hT⟩, hO, hnm, hn3, k'⟩ := h
    refine ⟨_, (pss_cons (ps_set (i := 1) sc_l_paths.nd rfl (Or.inl rfl) (pe_lst pa_nil)) (pss_cons (ps_for PassesOwn.never (by rfl) (pi_listK (K := K) (pv 0)) (pg_tupK (K := K) (n := 3) (by rfl) (pgs_cons (pg_name (i := 2) sc_l_paths.nd rfl (Or.inr rfl)) (pgs_cons (pg_name (i := 3) sc_l_paths.nd rfl (Or.inl rfl)) (pgs_cons (pg_name (i := 4) sc_l_paths.nd rfl (Or.inl rfl)) pgs_nil)))) (pss_one (ps_if (pt_val (pe_callB (call_isiF (K := K)) (by rfl) (T.free _ (by decide)) (by decide +kernel) (pa_cons (pv 4) (pa_cons (pe_bltn (v := .ty "list") (by rfl) (T.free _ (by decide)) (by decide +kernel) rfl) pa_nil)))) (pss_one (ps_set (i := 1) sc_l_paths.nd rfl (Or.inl rfl) (pe_op op_cat (pv 1) (pe_lc (own := [("_law_path", 5)]) (by rfl) sc_l_paths.nd (pi_listK (K := K) (C8.pe_c ih hr (by omega) (by rfl) (pa_cons (pe_ix (ix_listK (K := K)) (pv 4) pe_int (fun _ _ => rfl)) pa_nil))) (blkOk_by (own := [("_law_path", 5)]) (N := n_l_paths) (sc := defScope s_l_paths) (by decide +kernel)) (fun _ _ _ _ _ => pg_name (i := 5) sc_l_paths.nd rfl (Or.inl rfl)) (fun _ _ _ _ _ => by exact pts_nil) (fun _ _ _ _ _ => by exact (pe_op op_add_str (pe_op op_add_str (pv 2) pe_str) (pv 5))))))) (pss_one (ps_expr (pe_bmK (K := K) PySem.F.plainAttrs_list PySem.F.slot_list_append PySem.F.type_list_append mt_append (pv 1) (pa_cons (pv 2) pa_nil))))))) (pss_one (ps_ret (pv 1))))), ?_⟩
    have hyl := hT.len
    have h8 := hO.len
    have hp8 : 8 * 8 ^ n ≤ 4096 := Nat.mul_le_mul_left 8 (Nat.pow_le_pow_right (n := 8) (by decide) hn3)
    refine q_asgL (xs := []) (el_lst ea_nil (Nat.zero_le _)) fun f0 H1 hf0 e1 h1 => ?_
    refine q_forL (g := gTup K 3 (fun xs σ H Q => ∃ x r, xs = x :: r ∧ gName 2 x σ H fun σ H => ∃ x r', r = x :: r' ∧ gName 3 x σ H fun σ H => ∃ x r'', r' = x :: r'' ∧ gName 4 x σ H fun σ H => r'' = [] ∧ Q σ H)) (ev_var rfl) (sq_of (e1 _ _ hf)) (fun i σ' H' => Ex H H' ∧ ∃ fo a2 a3 a4, σ' = [some (.ref f), some (.ref fo), a2, a3, a4, none] ∧ H fo = none ∧ H' fo = some (.lst ((pathsS (pathsR n) (ts.take i)).map V.str)))
      (fun H2 e2 => ⟨e1.trans e2, f0, _, _, _, rfl, hf0, e2 _ _ h1⟩) (fun i σ' H' _ p => sq_of (p.1 _ _ hf)) ?_ ?_
    · rintro i x σ' H' hx ⟨p1, fo, a2, a3, a4, rfl, p2, p3⟩
      obtain ⟨t, ht, a, wv, rfl, ha, hw⟩ := (hT.ex (fun u l q => rawV_ex q p1) p1).get hx
      have htm := List.mem_of_getElem? ht
      have htk := pathsS_take (f := pathsR n) ht
      have hc1 := pathsS_len hO i
      have hc2 := pathsS_len hO (i + 1)
      rw [htk] at hc2 ⊢
      generalize pathsS (pathsR n) (ts.take i) = acc at p3 hc1 hc2 ⊢
      have h3 := (hO.ten t htm).2.2
      have hnl := hO.name hnm htm
      refine ⟨a, _, rfl, st_of ha, rfl, _, _, rfl, _, _, rfl, _, _, rfl, rfl, ?_⟩
      obtain ⟨nm, sh, wt⟩ := t
      have hnl : nm.length ≤ 8 := hnl
      cases wt with
      | rule r =>
        obtain ⟨rfl, h6⟩ := hw
        obtain ⟨o, ho1, ho2⟩ := T.ruleT r h6
        refine s_if (b := false) (et_B (ev_isi (ev_var rfl) (.ty "list") (fun _ _ => .fn ho1 ho2) (kit_ty (by decide +kernel)))) (fun h => nomatch h) fun _ H3 e3 => ?_
        refine s_app (e3 _ _ p3) (ev_var rfl) (ev_var rfl) (by rw [List.length_map]; omega) fun H4 e4 => ⟨Ex.mut ((p1.trans e3).trans e4) p2, fo, _, _, _, rfl, p2, ?_⟩
        rw [upd_same, List.map_append]
        rfl
      | kids l r =>
        obtain ⟨q, l', rfl, q1, q2⟩ := hw
        refine s_if (b := true) (et_B (ev_isi (ev_var rfl) (.ty "list") (fun _ e => ty_lst (e _ _ q1)) (kit_ty (by decide +kernel)))) (fun _ H3 e3 => ?_) fun h => nomatch h
        cases n with
        | zero => exact False.elim q2
        | succ n =>
          have h3 : TreeW (TreeOk (n + 1)) sh (.kids l r) := h3
          have hbd := pathsR_bd (n + 1) subN sh l h3.2 subN_in
          have e13 := p1.trans e3
          have hlc : EvL (tLc (iList K (tCall (sp_l_paths K (n + 1)) [] C8.E0 (tCons (tOp (rIxL K) (tVar 4) (tC (.int 0))) tNil))) (gName 5) tYes (tOp (fun x y H Q => ∃ i j, x = .str i ∧ y = .str j ∧ i.length + j.length ≤ sizeLine ∧ Q (.str (i ++ j)) H) (tOp (fun x y H Q => ∃ i j, x = .str i ∧ y = .str j ∧ i.length + j.length ≤ sizeLine ∧ Q (.str (i ++ j)) H) (tVar 2) (tC (.str "/"))) (tVar 5)) [5]) [some (.ref f), some (.ref fo), some (.str nm), some (.int sh), some (.ref q), none] H3 (((pathsR (n + 1) l).map fun p => nm ++ "/" ++ p).map V.str) := by
            have e : ((pathsR (n + 1) l).map fun p => nm ++ "/" ++ p).map V.str = given ((pathsR (n + 1) l).map V.str).length (fun _ => true) (fun i => .str (nm ++ "/" ++ (pathsR (n + 1) l).getD i "")) := by
              rw [given_all, List.length_map, range_map_get (pathsR (n + 1) l) "" (fun p => V.str (nm ++ "/" ++ p)), List.map_map]
              rfl
            have hlen : (pathsR (n + 1) l).length ≤ 4096 := by
              have : (pathsT (pathsR (n + 1)) ⟨nm, sh, .kids l r⟩).length = (pathsR (n + 1) l).length := List.length_map _
              rw [List.length_append, this] at hc2
              omega
            rw [e]
            intro H4 e4 Q1 q1'
            have hraw := rawV_ex q2 (e3.trans e4)
            refine (ev_op (ta := tVar 4) (tb := tC (.int 0)) (ev_var rfl) ev_c (rv_ixL (K := K) (sq_of (e4 _ _ (e3 _ _ q1))) (v := .ref l') (at_of (j := 0) rfl rfl))) H4 (Ex.refl _) _ fun H5 e5 => ?_
            refine ⟨l', l, subN, sh, rfl, rawV_ex hraw e5, h3.2, subN_in, by omega, fun p H6 hp e6 h6 => ⟨p, rfl, ⟨_, sq_of h6⟩, ?_⟩⟩
            have hw := el_lcW (te := tOp (fun x y H Q => ∃ i j, x = .str i ∧ y = .str j ∧ i.length + j.length ≤ sizeLine ∧ Q (.str (i ++ j)) H) (tOp (fun x y H Q => ∃ i j, x = .str i ∧ y = .str j ∧ i.length + j.length ≤ sizeLine ∧ Q (.str (i ++ j)) H) (tVar 2) (tC (.str "/"))) (tVar 5)) (tt := tYes) (g := gName 5) (vs := [5]) (σ := [some (.ref f), some (.ref fo), some (.str nm), some (.int sh), some (.ref q), none]) (H := H6) (fun _ => true) (fun i => .str (nm ++ "/" ++ (pathsR (n + 1) l).getD i ""))
              (wi := fun σ H R => R (Itl K p) H) (fun H7 e7 R2 q => q H7 (Ex.refl _)) (walk_list (K := K) (a := p) (xs := (pathsR (n + 1) l).map V.str)) (by rw [List.length_map]; omega) (fun H7 e7 => sq_of (e7 _ _ h6)) (fun j H7 v H8 hj e7 y R2 hR => by
                obtain ⟨rfl, hv⟩ := y
                rw [List.getElem?_map] at hv
                obtain ⟨pp, hpp, rfl⟩ := Option.map_eq_some_iff.mp hv
                have hg : (pathsR (n + 1) l).getD j "" = pp := by rw [List.getD, hpp]; rfl
                rw [hg] at hR
                have hpl := hbd pp (List.mem_of_getElem? hpp)
                refine hR _ _ (Ex.refl _) rfl et_yes fun _ => ev_cat (ev_cat (ev_var rfl) ev_c ?_) (ev_var rfl) ?_
                · show _ + 1 ≤ _
                  omega
                · rw [Str.length_append]
                  show _ + 1 + _ ≤ _
                  omega)
            exact hw H6 (Ex.refl _) Q1 fun p2 H7 hp2 e7 h7 => q1' p2 H7 (fresh_back (e5.trans e6) hp2) ((e5.trans e6).trans e7) h7
          refine ⟨_, rfl, hlc H3 (Ex.refl _) _ fun p2 H4 hp2 e4 h4 => ⟨fo, p2, _, _, rfl, rfl, e4 _ _ (e3 _ _ p3), h4, sz_of ?_, fun fo2 hfo2 => ?_⟩⟩
          · rw [List.length_map, List.length_map]
            have : (pathsT (pathsR (n + 1)) ⟨nm, sh, .kids l r⟩) = (pathsR (n + 1) l).map fun p => nm ++ "/" ++ p := rfl
            rw [this, List.length_append] at hc2
            omega
          · refine ⟨(e13.trans e4).trans (Ex.new hfo2), fo2, _, _, _, rfl, fresh_back (e13.trans e4) hfo2, ?_⟩
            rw [upd_same, List.map_append]
            rfl
    · rintro σ' H' ⟨p1, fo, a2, a3, a4, rfl, p2, p3⟩
      rw [show ts.take ys.length = ts by rw [hyl, List.take_length]] at p3
      exact ⟨_, rfl, k' fo H' p2 p1 p3⟩
end
end N32
set_option Elab.async false
set_option linter.all false
set_option maxRecDepth 100000
set_option maxHeartbeats 4000000

namespace N32
open PySem PySem.Spec PyProof.Rows L2 Evl
section
variable {P : Program} {w : World} {K : PySem.W.Frag} {mg : Str → Option Value} {base : Heap}
theorem ok_l_tenants0 (T : Ctx K mg) : C8.Cal P w K mg base 1 "_law_tenants" (sp_l_tenants K 0) [] := by
  refine cal_of T.f_l_tenants (T.glo _ (by decide)) (N := n_l_tenants) sc_l_tenants (fun _ _ _ _ _ _ us hl => match us, hl with | [_, _, _, _], _ => rfl) (fun vs H Q E h => (show False from h).elim) (fun cdv A outer s H vs Q E hr h => (show False from h).elim)
theorem ok_l_tenants3 (T : Ctx K mg) : C8.Cal P w K mg base 15 "_law_tenants" (sp_l_tenants K 3) [] :=
  cal_mono (ok_l_tenants (ok_l_tenants (ok_l_tenants (ok_l_tenants0 T) T) T) T) (by decide)
theorem ok_l_of0 (T : Ctx K mg) : C8.Cal P w K mg base 1 "_law_of" (sp_l_of K 0) [] := by
  refine cal_of T.f_l_of (T.glo _ (by decide)) (N := n_l_of) sc_l_of (fun _ _ _ _ _ _ us hl => match us, hl with | [_], _ => rfl) (fun vs H Q E h => (show False from h).elim) (fun cdv A outer s H vs Q E hr h => (show False from h).elim)
theorem ok_l_of3 (T : Ctx K mg) : C8.Cal P w K mg base 19 "_law_of" (sp_l_of K 3) [] :=
  cal_mono (ok_l_of (by decide) (ok_l_of (by decide) (ok_l_of (k := 6) (by decide) (cal_mono (ok_l_of0 T) (by decide)) T) T) T) (by decide)
theorem ok_l_paths0 (T : Ctx K mg) : C8.Cal P w K mg base 1 "_law_paths" (sp_l_paths K 0) [] := by
  refine cal_of T.f_l_paths (T.glo _ (by decide)) (N := n_l_paths) sc_l_paths (fun _ _ _ _ _ _ us hl => match us, hl with | [_], _ => rfl) (fun vs H Q E h => (show False from h).elim) (fun cdv A outer s H vs Q E hr h => (show False from h).elim)
theorem ok_l_paths3 (T : Ctx K mg) : C8.Cal P w K mg base 13 "_law_paths" (sp_l_paths K 3) [] :=
  cal_mono (ok_l_paths (ok_l_paths (ok_l_paths (ok_l_paths0 T) T) T) T) (by decide)
end
theorem t_c {v : V} {σ : L2.St} {H : Hp} {Q : VK} (h : Q v H) : tC v σ H Q := h
theorem t_cons {te : TE} {tr : TA} {σ : L2.St} {H : Hp} {Q : List V → Hp → Prop} (h : te σ H fun x H1 => tr σ H1 fun xs H2 => Q (x :: xs) H2) : tCons te tr σ H Q := h
theorem t_test {t : TE} {σ : L2.St} {H : Hp} {Q : Bool → Hp → Prop} (h : t σ H fun x H' => ∃ k, x = .bl k ∧ Q k H') : tTest t σ H Q := h
theorem t_op {r : R2} {ta tb : TE} {σ : L2.St} {H : Hp} {Q : VK} (h : ta σ H fun x H1 => tb σ H1 fun y H2 => r x y H2 Q) : tOp r ta tb σ H Q := h
theorem q_nx {f : L2.St → Hp → Prop} {rt : V → Hp → Prop} {bk ct : L2.St → Hp → Prop} {σ : L2.St} {H : Hp} (h : f σ H) : (Ends.mk f rt bk ct).nx σ H := h
theorem mergeK_new : ∀ (more kvs : List (Key × V)), (kvs.map (·.1) ++ more.map (·.1)).Nodup → mergeK kvs more = kvs ++ more
  | [], kvs, _ => by simp [mergeK]
  | q :: more, kvs, h => by
    have hq : valV kvs q.1 = none := by
      rw [List.map_cons, List.nodup_append] at h
      have h3 := h.2.2
      have key : ∀ l : List (Key × V), (∀ a ∈ l.map (·.1), a ≠ q.1) → valV l q.1 = none := by
        intro l
        induction l with
        | nil => intro _; rfl
        | cons a l ih =>
          intro hl
          rw [show a :: l = (a.1, a.2) :: l from rfl, valV_neg (hl a.1 (by simp))]
          exact ih fun b hb => hl b (by rw [List.map_cons]; exact List.mem_cons_of_mem _ hb)
      exact key kvs fun a ha => h3 a ha q.1 List.mem_cons_self
    show mergeK (putK kvs q.1 q.2) more = kvs ++ q :: more
    rw [putK_new _ hq, mergeK_new more (kvs ++ [(q.1, q.2)]) (by rw [List.map_append, List.append_assoc]; exact h), List.append_assoc]
    rfl
theorem abc_ix : ∀ i < 8, ∀ c, ("abcdefgh" : Str).cps[i]? = some c → pagesL[i]? = some (⟨#[c]⟩ : Str) := by
  intro i hi c hc
  match i, hi with
  | 0, _ => cases hc; rfl
  | 1, _ => cases hc; rfl
  | 2, _ => cases hc; rfl
  | 3, _ => cases hc; rfl
  | 4, _ => cases hc; rfl
  | 5, _ => cases hc; rfl
  | 6, _ => cases hc; rfl
  | 7, _ => cases hc; rfl
theorem szK_merge {z : Szs} (h : (z.map (·.1)).Sublist pagesL) : mergeK [] (szK z) = szK z := by
  rw [mergeK_new]
  · rfl
  · show ((szK z).map (·.1)).Nodup
    have e : (szK z).map (·.1) = (z.map (·.1)).map Sum.inr := by
      unfold szK
      rw [List.map_map, List.map_map]
      rfl
    rw [e]
    have : (z.map (·.1)).Nodup := (show pagesL.Nodup by decide).sublist h
    exact List.Pairwise.map Sum.inr (fun a b hab hc => hab (Sum.inr.inj hc)) this
structure PairL (H : Hp) (ps : List Addr) (z : Szs) : Prop where
  len : ps.length = z.length
  at_ : ∀ (i : Nat) (p : Addr) (q : Str × Int), ps[i]? = some p → z[i]? = some q → H p = some (.tup [.str q.1, .int q.2])
theorem PairL.tu {H H' : Hp} {ps : List Addr} {z : Szs} (h : PairL H ps z) (e : Tu H H') : PairL H' ps z := ⟨h.len, fun i p q a b => e _ _ (h.at_ i p q a b)⟩
theorem PairL.paired {K : PySem.W.Frag} {H : Hp} : ∀ {ps : List Addr} {z : Szs}, PairL H ps z → Paired (fun p (kv : Key × V) => SqT K H p [kV kv.1, kv.2]) ps (szK z)
  | [], [], _ => .nil
  | [], _ :: _, h => by have := h.len; simp at this
  | _ :: _, [], h => by have := h.len; simp at this
  | p :: ps, q :: z, h => .cons (st_of (h.at_ 0 p q rfl rfl)) (PairL.paired ⟨by have := h.len; simpa using this, fun i p' q' a b => h.at_ (i + 1) p' q' a b⟩)
theorem PairL.snoc {H : Hp} {ps : List Addr} {z : Szs} {p : Addr} {q : Str × Int} (h : PairL H ps z) (hp : H p = some (.tup [.str q.1, .int q.2])) : PairL H (ps ++ [p]) (z ++ [q]) := by
  refine ⟨by rw [List.length_append, List.length_append, h.len]; rfl, fun i p' q' a b => ?_⟩
  by_cases hi : i < ps.length
  · rw [List.getElem?_append_left hi] at a
    rw [List.getElem?_append_left (by rw [← h.len]; exact hi)] at b
    exact h.at_ i p' q' a b
  · rw [List.getElem?_append_right (by omega)] at a
    rw [List.getElem?_append_right (by rw [← h.len]; omega), ← h.len] at b
    have hz : i - ps.length = 0 := by
      have := (List.getElem?_eq_some_iff.mp a).1
      simp at this
      omega
    rw [hz] at a b
    cases a
    cases b
    exact hp

section
variable {P : Program} {w : World} {K : PySem.W.Frag} {mg : Str → Option Value} {base : Heap}
abbrev n_l_setup : List Str := ["_law_pool", "_law_deep", "_law_frames", "_law_tenants_here", "_law_rule_here", "_law_big", "_law_wait_in", "_law_wait_out", "_law_after", "_law_some", "_law_setup_here", "_law_one"]
theorem sc_l_setup : FnScope n_l_setup ["_law_pool", "_law_deep"] (defScope s_l_setup) := C8.fnScope_by (by decide +kernel)
def sp_l_setup (K : PySem.W.Frag) : Sp := fun vs H Q _ => ∃ (p : Addr) (R : List HP), vs = [.ref p, .int 2] ∧ Sat H (PoolP p :: R) ∧ ∀ t s l frames z (ts : List (TnS (Kid 2))) H', Sat H' (SetupP K s frames z ts :: pt l (.lst ((pathsS (pathsR 2) ts).map V.str)) :: PoolP p :: R) → H' t = some (.tup [.ref s, .ref l]) → SzOk z → TreeS (TreeOk 2) topN frames ts → 1 ≤ ts.length → 0 ≤ frames → frames ≤ 8 → Tu H H' → Q (.ref t) H'
theorem ok_l_setup  (T : Ctx K mg) : C8.Cal P w K mg base 20 "_law_setup" (sp_l_setup K) [] := by
  refine cal_of T.f_l_setup (T.glo _ (by decide)) (N := n_l_setup) sc_l_setup (fun _ _ _ _ _ _ us hl => match us, hl with | [_, _], _ => rfl) (fun vs H Q E h => ?len) (fun cdv A outer s H vs Q E hr h => ?body)
  case len =>
    obtain ⟨_, _, rfl, _⟩ := h
    rfl
  case body =>
    obtain ⟨p, R, rfl, S, k⟩ := h
    refine ⟨_, (pss_cons (ps_set (i := 2) sc_l_setup.nd rfl (Or.inl rfl) (C8.pe_c (ok_l_draw T) hr (by decide) (by rfl) (pa_cons (pv 0) (pa_cons pe_int pa_nil)))) (pss_cons (ps_set (i := 3) sc_l_setup.nd rfl (Or.inl rfl) (C8.pe_c (ok_l_tenants3 T) hr (by decide) (by rfl) (pa_cons (pv 0) (pa_cons (pe_lst (pa_cons pe_str (pa_cons pe_str (pa_cons pe_str pa_nil)))) (pa_cons (pv 2) (pa_cons (pv 1) pa_nil)))))) (pss_cons (ps_set (i := 4) sc_l_setup.nd rfl (Or.inl rfl) (C8.pe_c (ok_l_rule T) hr (by decide) (by rfl) (pa_cons (pv 0) pa_nil))) (pss_cons (ps_set (i := 5) sc_l_setup.nd rfl (Or.inl rfl) (pe_callTy (call_dictP rfl) (by rfl) (T.free _ (by decide)) (by decide +kernel) (pa_cons (pe_lc (own := [("_law_one", 11)]) (by rfl) sc_l_setup.nd (pi_str pe_str) (blkOk_by (own := [("_law_one", 11)]) (N := n_l_setup) (sc := defScope s_l_setup) (by decide +kernel)) (fun _ _ _ _ _ => pg_name (i := 11) sc_l_setup.nd rfl (Or.inl rfl)) (fun _ _ _ _ _ => by exact (pts_one (pt_cmpR op_eq (C8.pe_c (ok_l_draw T) hr (by decide) (by rfl) (pa_cons (pv 0) (pa_cons pe_int pa_nil))) pe_int (by rfl)))) (fun _ _ _ _ _ => by exact (pe_tup (pa_cons (pv 11) (pa_cons (pe_op op_add pe_int (C8.pe_c (ok_l_draw T) hr (by decide) (by rfl) (pa_cons (pv 0) (pa_cons pe_int pa_nil)))) pa_nil))))) pa_nil))) (pss_cons (ps_par3 (i := 6) (j := 7) (l := 8) (by rfl) sc_l_setup.nd rfl rfl rfl (by decide) (by decide) (by decide) rfl rfl rfl (pa_cons (C8.pe_c (ok_l_draw T) hr (by decide) (by rfl) (pa_cons (pv 0) (pa_cons pe_int pa_nil))) (pa_cons (C8.pe_c (ok_l_draw T) hr (by decide) (by rfl) (pa_cons (pv 0) (pa_cons pe_int pa_nil))) (pa_cons (pe_cmpR op_eq (C8.pe_c (ok_l_draw T) hr (by decide) (by rfl) (pa_cons (pv 0) (pa_cons pe_int pa_nil))) pe_int (by rfl)) pa_nil))) (by rfl)) (pss_cons (ps_set (i := 9) sc_l_setup.nd rfl (Or.inl rfl) (C8.pe_c (ok_l_of3 T) hr (by decide) (by rfl) (pa_cons (pv 3) pa_nil))) (pss_cons (ps_set (i := 10) sc_l_setup.nd rfl (Or.inl rfl) (pe_mkK (ok_Setup_init T) hr (by decide) (by rfl) (pa_cons (pv 2) (pa_cons (pv 9) pa_nil)) (pk_cons (pe_callTy call_dictD (by rfl) (T.free _ (by decide)) (by decide +kernel) (pa_cons (pv 5) pa_nil)) (pk_cons (pv 4) (pk_cons (pv 6) (pk_cons (pv 7) (pk_cons (pv 8) pk_nil))))))) (pss_one (ps_ret (pe_tup (pa_cons (pv 10) (pa_cons (C8.pe_c (ok_l_paths3 T) hr (by decide) (by rfl) (pa_cons (pv 3) pa_nil)) pa_nil)))))))))))), ?_⟩
    refine q_asgD ?_
    refine t_draw (size := 9) S rfl ev_c (by decide) (by decide) fun fr H1 fr0 fr1 S1 t1 => ?_
    refine q_asgD ?_
    refine ⟨_, rfl, sz_of (by show 3 ≤ 100000; decide), fun nl hnl => ⟨_, rfl, _, rfl, p, nl, topN, fr, R, rfl, (S1.new (o := .lst (topN.map V.str)) hnl).swap, .inl rfl, fr0, by omega, fun f ts H2 S2 hTr hts1 t2 => ?_⟩⟩
    have t12 : Tu H H2 := (t1.trans (Tu.new hnl)).trans t2
    have S2 : Sat H2 (PoolP p :: rawP K 3 f ts :: R) := (S2.sub (((List.sublist_cons_self _ _).cons_cons _).cons_cons _)).swap
    refine q_asgD ?_
    refine ⟨_, rfl, p, _, rfl, S2, fun rl H3 rl6 S3 t3 => ?_⟩
    have t13 := t12.trans t3
    -- the big pages
    refine q_asgD ?_
    refine ⟨_, rfl, fun D hD => ?_⟩
    refine lc_it walk_str (fun i H' => ∃ ps z, Sat H' (pt D (.lst (ps.map V.ref)) :: PoolP p :: rawP K 3 f ts :: R) ∧ Tu H3 H' ∧ PairL H' ps z ∧ (z.map (·.1)).Sublist (pagesL.take i) ∧ (∀ q ∈ z, 1 ≤ q.2 ∧ q.2 ≤ 3)) ⟨[], [], S3.new hD, Tu.new hD, ⟨rfl, fun i p q h => by simp at h⟩, List.nil_sublist _, fun q hq => by simp at hq⟩ (fun _ _ _ _ => trivial) ?_ ?_
    · rintro i x H4 H5 hi ⟨ps, z, p1, p2, p3, p4, p5⟩ ⟨rfl, c, hc, rfl⟩
      have hi8 : i < 8 := hi
      have hpg := abc_ix i hi8 c hc
      have hzl : z.length ≤ 8 := by
        have := p4.length_le
        rw [List.length_map, List.length_take] at this
        omega
      have htk : pagesL.take (i + 1) = pagesL.take i ++ [⟨#[c]⟩] := by rw [List.take_add_one, hpg]; rfl
      refine ⟨rfl, t_test (t_op ?_)⟩
      refine t_draw (K := K) (p := p) (j := 0) (size := 4) p1.swap rfl ev_c (by decide) (by decide) fun dd H6 dd0 dd1 S6 t6 => ⟨rfl, _, rfl, ?_⟩
      by_cases hdd : V.int dd = V.int 0
      · rw [decide_eq_true hdd]
        refine of_ifT ⟨_, rfl, t_cons (t_op (t_c ?_))⟩
        refine t_draw (K := K) (p := p) (j := 0) (size := 3) S6 rfl ev_c (by decide) (by decide) fun d2 H7 d20 d21 S7 t7 => ⟨1, d2, rfl, rfl, sz_of (by show 2 ≤ 100000; decide), fun t ht => ?_⟩
        have S8 := (S7.same (Ex.new (o := .tup [.str ⟨#[c]⟩, .int (1 + d2)]) ht)).swap
        have t8 : Tu H5 (upd H7 t (.tup [.str ⟨#[c]⟩, .int (1 + d2)])) := (t6.trans t7).trans (Tu.new ht)
        refine ⟨ps.map V.ref, S8.get 0 rfl, sz_lt (by rw [List.length_map, p3.len]; omega), ps ++ [t], z ++ [(⟨#[c]⟩, 1 + d2)], ?_, (p2.trans t8).trans (Tu.upd (S8.get 0 rfl)), ?_, ?_, ?_⟩
        · rw [List.map_append]
          exact S8.put 0 rfl
        · exact (p3.tu (t8.trans (Tu.upd (S8.get 0 rfl)))).snoc (Tu.upd (S8.get 0 rfl) (fun z => z) _ _ upd_same)
        · rw [List.map_append, htk]
          exact p4.append (List.Sublist.refl _)
        · intro q hq
          rcases List.mem_append.mp hq with a | a
          · exact p5 q a
          · rw [List.mem_singleton.mp a]
            exact ⟨by show 1 ≤ 1 + d2; omega, by show 1 + d2 ≤ 3; omega⟩
      · rw [decide_eq_false hdd]
        refine of_ifF ⟨ps, z, S6.swap, p2.trans t6, p3.tu t6, ?_, p5⟩
        rw [htk]
        exact p4.trans (List.sublist_append_left _ _)
    · rintro H4 ⟨ps, z, S4, t4, hP, hsub, hbd⟩
      have hsub : (z.map (·.1)).Sublist pagesL := hsub
      have hz : SzOk z := ⟨by have := hsub.length_le; rw [List.length_map] at this; exact this, fun q hq => ⟨hsub.subset (List.mem_map_of_mem hq), hbd q hq⟩⟩
      refine ⟨D, ps, szK z, rfl, sq_of (S4.get 0 rfl), hP.paired, fun b hb => ?_⟩
      rw [szK_merge hsub]
      have S5 : Sat (upd H4 b (.dK (szK z))) (PoolP p :: pt b (.dK (szK z)) :: rawP K 3 f ts :: R) := (S4.tail.new (o := .dK (szK z)) hb).swap
      have t5 : Tu H (upd H4 b (.dK (szK z))) := (t13.trans t4).trans (Tu.new hb)
      generalize upd H4 b (.dK (szK z)) = H5 at S5 t5 ⊢
      -- three draws
      refine t_draw (size := 13) S5 rfl ev_c (by decide) (by decide) fun wi H6 wi0 wi1 S6 t6 => t_draw (size := 7) S6 rfl ev_c (by decide) (by decide) fun wo H7 wo0 wo1 S7 t7 => t_draw (size := 2) S7 rfl ev_c (by decide) (by decide) fun af H8 af0 af1 S8 t8 => ⟨rfl, _, _, _, rfl, ?_⟩
      have t58 := ((t5.trans t6).trans t7).trans t8
      -- groups
      refine q_nx ?_
      refine q_asgD ?_
      refine ⟨_, rfl, f, ts, topN, fr, _, rfl, S8.pull 2 rfl, hTr, fun g xs H9 S9 t9 => ?_⟩
      -- the setup
      refine q_asgD ?_
      have S9 : Sat H9 (pt g (.lst xs) :: al (seqP K (kidsP K 2) xs ts) :: rawP K 3 f ts :: PoolP p :: pt b (.dK (szK z)) :: R) := S9
      refine ⟨_, rfl, _, rfl, _, rfl, b, szK z, rfl, .inl (S9.get 4 rfl), fun d2 hd2 => ⟨_, rfl, _, rfl, _, rfl, _, rfl, rfl, rfl, fun s dx hs hdx hne => ?_⟩⟩
      have S10 := S9.new (o := .dK (szK z)) hd2
      have S11 := S10.made (C := He.ga K "Setup") hs hdx hne
      have t11 : Tu H9 (upd (upd (upd H9 d2 (.dK (szK z))) dx (.own s)) s (.ins (He.ga K "Setup") dx [])) := (Tu.new hd2).trans ((Tu.new hdx).trans (Tu.new (by rw [upd_ne hne.symm]; exact hs)))
      have hTen : TenL K (kidsV K 2) (upd (upd (upd H9 d2 (.dK (szK z))) dx (.own s)) s (.ins (He.ga K "Setup") dx [])) xs ts := by
        obtain ⟨G, F1, F2, g1, _⟩ := S11.pull 3 rfl
        exact seqP_on (fun u l F h => kidsP_on h) g1
      have S12 : Sat (upd (upd (upd H9 d2 (.dK (szK z))) dx (.own s)) s (.ins (He.ga K "Setup") dx [])) (pt s (.ins (He.ga K "Setup") dx []) :: pt g (.lst xs) :: pt d2 (.dK (szK z)) :: al (seqP K (kidsP K 2) xs ts) :: rawP K 3 f ts :: PoolP p :: pt b (.dK (szK z)) :: R) := S11.perm (.cons _ (.swap _ _ _))
      refine ⟨s, dx, g, d2, fr, wi, wo, _, rl, z, xs, ts, _, rfl, S12, hTen, hTr, hz, fr0, by omega, rl6, wi0, by omega, wo0, by omega, fun u szs tk H11 S13 hu t13' => ⟨rfl, ?_⟩⟩
      have S14 : Sat H11 (pt s (.ins (He.ga K "Setup") dx (setF K fr u szs rl tk (decide (V.int af = V.int 0)))) :: pt szs (.dK (szK z)) :: pt g (.lst xs) :: pt d2 (.dK (szK z)) :: al (seqP K (kidsP K 2) xs ts) :: rawP K 3 f ts :: PoolP p :: pt b (.dK (szK z)) :: R) := S13
      have S15 : Sat H11 (pt s (.ins (He.ga K "Setup") dx (setF K fr u szs rl tk (decide (V.int af = V.int 0)))) :: pt szs (.dK (szK z)) :: al (seqP K (kidsP K 2) xs ts) :: rawP K 3 f ts :: PoolP p :: R) :=
        S14.sub (((((((List.sublist_cons_self _ _).cons_cons _).cons_cons _).cons_cons _).cons _).cons _).cons_cons _ |>.cons_cons _)
      have S16 : Sat H11 (SetupP K s fr z ts :: rawP K 3 f ts :: PoolP p :: R) := SetupP.open_.mpr ⟨⟨dx, u, szs, rl, tk, _, xs⟩, Sat.back (l := [_, _]) (Sat.tp.mpr ⟨hu, S15⟩)⟩
      have hraw := Sat.rawV (S16.pull 1 rfl)
      refine ⟨_, rfl, _, rfl, f, ts, topN, fr, rfl, hraw, hTr, topN_in, by decide, fun l H12 hl e12 h12 => ⟨sz_of (by show 2 ≤ 100000; decide), fun t ht => ?_⟩⟩
      have S17 := ((S16.grow hl e12 h12).same (Ex.new (o := .tup [.ref s, .ref l]) ht)).swap
      refine k t s l fr z ts _ (S17.sub (((List.sublist_cons_self _ _).cons_cons _).cons_cons _)) upd_same hz hTr hts1 fr0 (by omega) (((((t58.trans t9).trans t11).trans t13').trans (Ex.tu e12)).trans (Tu.new ht))
end
end N32
set_option Elab.async false
set_option linter.all false
set_option maxRecDepth 100000
set_option maxHeartbeats 4000000

namespace N32
open PySem PySem.Spec PyProof.Rows L2 Evl
/-! ### the machine keeps its bounds -/
theorem sum_drop1 (f : Str → Int) (a : Str) : ∀ l : List Str, l.Nodup → a ∈ l → ((l.filter fun x => decide (x ≠ a)).map f).sum + f a = (l.map f).sum
  | [], _, h => by simp at h
  | b :: l, hn, h => by
    rw [List.nodup_cons] at hn
    rw [List.filter_cons, List.map_cons, List.sum_cons]
    by_cases e : b = a
    · subst e
      have hfe : (l.filter fun x => decide (x ≠ b)) = l := List.filter_eq_self.mpr fun x hx => decide_eq_true (show x ≠ b from fun z => hn.1 (z ▸ hx))
      rw [if_neg (by simp), hfe]
      omega
    · have ha : a ∈ l := by
        rcases List.mem_cons.mp h with z | z
        · exact (e z.symm).elim
        · exact z
      have ih := sum_drop1 f a l hn.2 ha
      rw [if_pos (decide_eq_true e), List.map_cons, List.sum_cons]
      omega
theorem sum_drop (f : Str → Int) (l : List Str) (hl : l.Nodup) : ∀ out : List Str, out.Nodup → (∀ x ∈ out, x ∈ l) → ((l.filter fun x => decide (x ∉ out)).map f).sum + (out.map f).sum = (l.map f).sum
  | [], _, _ => by
    rw [List.filter_eq_self.mpr (fun x _ => by simp)]
    simp
  | a :: out, hn, hs => by
    rw [List.nodup_cons] at hn
    have ih := sum_drop f l hl out hn.2 fun x hx => hs x (List.mem_cons_of_mem _ hx)
    have h1 := sum_drop1 f a (l.filter fun x => decide (x ∉ out)) (hl.sublist List.filter_sublist) (List.mem_filter.mpr ⟨hs a List.mem_cons_self, decide_eq_true hn.1⟩)
    have e : (l.filter fun x => decide (x ∉ a :: out)) = (l.filter fun x => decide (x ∉ out)).filter fun x => decide (x ≠ a) := by
      rw [List.filter_filter]
      apply List.filter_congr
      intro x _
      simp [not_or]
    rw [e, List.map_cons, List.sum_cons]
    omega
theorem used_pgs (z : Szs) (rows : List RowD) : usedR z rows = ((rows.map (·.pg)).map (szOf z)).sum := by
  unfold usedR
  rw [List.map_map]
  rfl
theorem drop_pgs (rows : List RowD) (out : List Str) : (dropR rows out).map (·.pg) = (rows.map (·.pg)).filter fun x => decide (x ∉ out) := by
  unfold dropR
  rw [List.filter_map]
  rfl
theorem sum_nonneg {z : Szs} (hz : SzOk z) : ∀ l : List Str, 0 ≤ (l.map (szOf z)).sum
  | [] => by simp
  | a :: l => by
    have := sum_nonneg hz l
    have := (szOf_bd hz a).1
    rw [List.map_cons, List.sum_cons]
    omega
theorem taken_go {z : Szs} (hz : SzOk z) {page : Str} {need : Int} : ∀ (es : List Ent) (acc : List Str × Int), (∀ e ∈ es, e.sz = szOf z e.pg) → acc.2 = (acc.1.map (szOf z)).sum →
    ((es.foldl (takeStep page need) acc).2 = ((es.foldl (takeStep page need) acc).1.map (szOf z)).sum) ∧ acc.2 ≤ (es.foldl (takeStep page need) acc).2 ∧ ((∀ e ∈ es, e.pg ≠ page) → need ≤ (es.foldl (takeStep page need) acc).2 ∨ (es.foldl (takeStep page need) acc).2 = acc.2 + (es.map (·.sz)).sum)
  | [], acc, _, h => ⟨h, Int.le_refl _, fun _ => .inr (by simp)⟩
  | e :: es, acc, he, h => by
    have hs := he e List.mem_cons_self
    have hb := (szOf_bd hz e.pg).1
    rw [List.foldl_cons]
    by_cases hc : acc.2 < need ∧ e.pg ≠ page
    · rw [takeStep_yes hc]
      obtain ⟨h1, h2, h3⟩ := taken_go hz es (acc.1 ++ [e.pg], acc.2 + e.sz) (fun x hx => he x (List.mem_cons_of_mem _ hx)) (by
        show acc.2 + e.sz = _
        rw [List.map_append, show [e.pg].map (szOf z) = [szOf z e.pg] from rfl, sum_snoc, h, hs])
      refine ⟨h1, by have : acc.2 + e.sz ≤ _ := h2; omega, fun hp => ?_⟩
      rcases h3 (fun x hx => hp x (List.mem_cons_of_mem _ hx)) with a | a
      · exact .inl a
      · refine .inr ?_
        rw [a, List.map_cons, List.sum_cons]
        show acc.2 + e.sz + _ = _
        omega
    · rw [takeStep_no hc]
      obtain ⟨h1, h2, h3⟩ := taken_go hz es acc (fun x hx => he x (List.mem_cons_of_mem _ hx)) h
      refine ⟨h1, h2, fun hp => .inl ?_⟩
      have : ¬ acc.2 < need := fun q => hc ⟨q, hp e List.mem_cons_self⟩
      omega
theorem ents_sz (z : Szs) (m : M) : ((m.ents z).map (·.sz)).sum = m.used z := by
  show (List.map _ (List.map _ m.rows)).sum = usedR z m.rows
  rw [List.map_map]
  rfl
/-- what goes is enough -/
theorem out_enough {z : Szs} {m : M} {page : Str} {out : List Str} (hz : SzOk z) (h : MOk z m) (hask : asksF z m page = true) (ho : (toldF z m page).2.1 = some out) : needF z m page ≤ (out.map (szOf z)).sum := by
  have fb : needF z m page ≤ ((takenL (m.ents z) page (needF z m page)).map (szOf z)).sum := by
    have hsz : ∀ e ∈ m.ents z, e.sz = szOf z e.pg := (h.entsOk hz).sz
    obtain ⟨h1, h2, h3⟩ := taken_go hz (page := page) (need := needF z m page) (m.ents z) ([], 0) hsz rfl
    have h1 : (takenA (m.ents z) page (needF z m page)).2 = ((takenL (m.ents z) page (needF z m page)).map (szOf z)).sum := h1
    rw [← h1]
    by_cases hp : page ∈ m.pgs
    · have : needF z m page = 0 := if_pos hp
      have h2 : (0 : Int) ≤ (takenA (m.ents z) page (needF z m page)).2 := h2
      omega
    · have hne : ∀ e ∈ m.ents z, e.pg ≠ page := fun e he z' => hp (by
        have : e.pg ∈ namesO (m.ents z) := List.mem_map_of_mem he
        rw [names_ents, z'] at this
        exact this)
      rcases h3 hne with a | a
      · exact a
      · have a : (takenA (m.ents z) page (needF z m page)).2 = 0 + ((m.ents z).map (·.sz)).sum := a
        rw [ents_sz] at a
        rw [a]
        have hs : szOf z page ≤ m.share := by
          unfold asksF at hask
          rw [decide_eq_false hp] at hask
          simpa using hask
        have hu : 0 ≤ m.used z := by
          show 0 ≤ usedR z m.rows
          rw [used_pgs]
          exact sum_nonneg hz _
        unfold needF
        rw [if_neg hp]
        split <;> omega
  unfold toldF answerF at ho
  cases e : ruleF m.rule m.st (m.ents z) page (needF z m page) with
  | ok st' o =>
    rw [e] at ho
    dsimp only at ho
    split at ho
    · rename_i hi
      cases ho
      unfold isAns at hi
      rw [Bool.and_eq_true, Bool.and_eq_true] at hi
      exact of_decide_eq_true hi.2.2
    · cases ho
      exact fb
  | no st' =>
    rw [e] at ho
    dsimp only at ho
    split at ho
    · cases ho
    · cases ho
      exact fb
  | bad =>
    rw [e] at ho
    cases ho
    exact fb

theorem pgs_reqF (z : Szs) (m : M) (at_ : Int) (page : Str) : (reqF z m at_ page).pgs = if keptF z m page = true ∧ page ∉ m.pgs then (m.pgs.filter fun x => decide (x ∉ outF z m page)) ++ [page] else m.pgs.filter fun x => decide (x ∉ outF z m page) := by
  show (if keptF z m page = true then (if page ∈ m.pgs then useR (dropR m.rows (outF z m page)) page (m.reqs + 1) else dropR m.rows (outF z m page) ++ [⟨page, m.reqs + 1, m.reqs + 1, 1, at_⟩]) else dropR m.rows (outF z m page) : List RowD).map (·.pg) = _
  by_cases hk : keptF z m page = true
  · rw [if_pos hk]
    by_cases hp : page ∈ m.pgs
    · rw [if_pos hp, useR_pgs, drop_pgs, if_neg (fun q => q.2 hp)]
      rfl
    · rw [if_neg hp, List.map_append, drop_pgs, if_pos ⟨hk, hp⟩]
      rfl
  · rw [if_neg hk, drop_pgs, if_neg (fun q => hk q.1)]
    rfl
theorem ruleF_st {r : Nat} {st : RSt} {es : List Ent} {page : Str} {need n : Int} (h6 : r < 6) (hn : 0 ≤ n) (h : StOk r st n) : (∀ st' out, ruleF r st es page need = .ok st' out → StOk r st' (n + 1)) ∧ ∀ st', ruleF r st es page need = .no st' → StOk r st' (n + 1) := by
  have hold := h.mono (show n ≤ n + 1 by omega)
  match r, h6 with
  | 0, _ => exact ⟨fun st' out e => by cases e; exact hold, fun st' e => by cases e⟩
  | 1, _ =>
    refine ⟨fun st' out e => ?_, fun st' e => by cases e⟩
    cases e
    cases st with
    | none => show 0 ≤ (1 : Int) ∧ (1 : Int) ≤ n + 1 + 1; omega
    | num k => have h : 0 ≤ k ∧ k ≤ n + 1 := h; show 0 ≤ k + 1 ∧ k + 1 ≤ n + 1 + 1; omega
    | seen xs => exact (show False from h).elim
  | 2, _ => exact ⟨fun st' out e => by cases e; exact hold, fun st' e => by cases e⟩
  | 3, _ =>
    refine ⟨fun st' out e => ?_, fun st' e => by cases e⟩
    cases e
    cases st with
    | none => show 0 ≤ (0 : Int) ∧ (0 : Int) ≤ n + 1 + 1; omega
    | num k => have h : 0 ≤ k ∧ k ≤ n + 1 := h; show 0 ≤ k + 1 ∧ k + 1 ≤ n + 1 + 1; omega
    | seen xs => exact (show False from h).elim
  | 4, _ =>
    have hs : st.seenL.length ≤ 2 := by
      cases st with
      | none => exact Nat.zero_le _
      | num k => exact (show False from h).elim
      | seen xs => exact h
    have hd : ((st.seenL ++ [page]).drop ((st.seenL ++ [page]).length - 2)).length ≤ 2 := by rw [List.length_drop]; omega
    have hr : ruleF 4 st es page need = if 0 < need ∧ page ∉ namesO es ∧ page ∉ st.seenL then Ans.no (.seen ((st.seenL ++ [page]).drop ((st.seenL ++ [page]).length - 2))) else .ok (.seen st.seenL) (takenL es.reverse page need) := rfl
    rw [hr]
    split
    · exact ⟨fun st' out e => (by cases e), fun st' e => (by cases e; exact hd)⟩
    · exact ⟨fun st' out e => (by cases e; exact hs), fun st' e => (by cases e)⟩
  | 5, _ =>
    have hc : StOk 5 (.num (st.count 0)) (n + 1) := by
      cases st with
      | none => show 0 ≤ (0 : Int) ∧ (0 : Int) ≤ n + 1 + 1; omega
      | num k => have h : 0 ≤ k ∧ k ≤ n + 1 := h; show 0 ≤ k + 1 ∧ k + 1 ≤ n + 1 + 1; omega
      | seen xs => exact (show False from h).elim
    have hr : ruleF 5 st es page need = wildF (st.count 0) es page (takenL es page need) := rfl
    rw [hr]
    unfold wildF
    generalize ((st.count 0 * st.count 0 + (es.map (·.last)).sum) % 16).toNat = i
    unfold wildA
    constructor
    · intro st' out e
      split at e <;> cases e <;> exact hc
    · intro st' e
      split at e <;> cases e <;> exact hc
theorem reqF_ok {z : Szs} {m : M} {at_ : Int} {page : Str} (h : MOk z m) (hz : SzOk z) (hp : page ∈ pagesL) (ha0 : 0 ≤ at_) (ha1 : at_ ≤ 1000) (hr : m.reqs < 100) : MOk z (reqF z m at_ page) := by
  have hok := outF_ok (z := z) (page := page) h.nodup
  have hpg := pgs_reqF z m at_ page
  have hnf : (m.pgs.filter fun x => decide (x ∉ outF z m page)).Nodup := h.nodup.sublist List.filter_sublist
  refine ⟨h.rule, h.share, ⟨by have := h.reqs.1; show 0 ≤ m.reqs + 1; omega, by show m.reqs + 1 ≤ 100; omega⟩, ?_, ⟨ha0, ha1⟩, ?_, ?_, ?_, ?_, ?_, ?_⟩
  · have := h.dirt
    show ((m.dirt + 1 : Nat) : Int) = m.reqs + 1
    omega
  · rw [hpg]
    split
    · rename_i hc
      rw [List.nodup_append]
      exact ⟨hnf, by simp, fun a ha b hb => by rw [List.mem_singleton.mp hb]; rintro rfl; exact hc.2 (List.mem_filter.mp ha).1⟩
    · exact hnf
  · intro p hpm
    rw [hpg] at hpm
    split at hpm
    · rcases List.mem_append.mp hpm with a | a
      · exact h.pages p (List.mem_filter.mp a).1
      · rw [List.mem_singleton.mp a]; exact hp
    · exact h.pages p (List.mem_filter.mp hpm).1
  · have hsub : ((dropR m.rows (outF z m page)).map (·.since)).Pairwise (· < ·) := h.since.sublist (List.Sublist.map _ List.filter_sublist)
    show ((if keptF z m page = true then (if page ∈ m.pgs then useR (dropR m.rows (outF z m page)) page (m.reqs + 1) else dropR m.rows (outF z m page) ++ [⟨page, m.reqs + 1, m.reqs + 1, 1, at_⟩]) else dropR m.rows (outF z m page) : List RowD).map (·.since)).Pairwise (· < ·)
    split
    · split
      · have e : (useR (dropR m.rows (outF z m page)) page (m.reqs + 1)).map (·.since) = (dropR m.rows (outF z m page)).map (·.since) := by
          unfold useR
          rw [List.map_map]
          apply List.map_congr_left
          intro r _
          show (if r.pg = page then _ else r : RowD).since = r.since
          split <;> rfl
        rw [e]
        exact hsub
      · rw [List.map_append, List.pairwise_append]
        refine ⟨hsub, List.pairwise_singleton _ _, fun a ha b hb => ?_⟩
        obtain ⟨r, hr', rfl⟩ := List.mem_map.mp ha
        have := (h.bds r (List.mem_filter.mp hr').1).2.1
        rw [List.mem_singleton.mp hb]
        show r.since < m.reqs + 1
        omega
    · exact hsub
  · have hold : ∀ r ∈ dropR m.rows (outF z m page), 1 ≤ r.since ∧ r.since ≤ m.reqs + 1 ∧ 1 ≤ r.last ∧ r.last ≤ m.reqs + 1 ∧ 1 ≤ r.uses ∧ r.uses ≤ m.reqs ∧ 0 ≤ r.start ∧ r.start ≤ 1000 := fun r hr' => by
      have := h.bds r (List.mem_filter.mp hr').1
      omega
    have hr0 := h.reqs.1
    show ∀ r ∈ (if keptF z m page = true then (if page ∈ m.pgs then useR (dropR m.rows (outF z m page)) page (m.reqs + 1) else dropR m.rows (outF z m page) ++ [⟨page, m.reqs + 1, m.reqs + 1, 1, at_⟩]) else dropR m.rows (outF z m page) : List RowD), 1 ≤ r.since ∧ r.since ≤ m.reqs + 1 ∧ 1 ≤ r.last ∧ r.last ≤ m.reqs + 1 ∧ 1 ≤ r.uses ∧ r.uses ≤ m.reqs + 1 ∧ 0 ≤ r.start ∧ r.start ≤ 1000
    intro r hrm
    split at hrm
    · split at hrm
      · obtain ⟨r0, hr0', rfl⟩ := List.mem_map.mp hrm
        have := hold r0 hr0'
        split
        · show 1 ≤ r0.since ∧ r0.since ≤ m.reqs + 1 ∧ 1 ≤ m.reqs + 1 ∧ m.reqs + 1 ≤ m.reqs + 1 ∧ 1 ≤ r0.uses + 1 ∧ r0.uses + 1 ≤ m.reqs + 1 ∧ 0 ≤ r0.start ∧ r0.start ≤ 1000
          omega
        · omega
      · rcases List.mem_append.mp hrm with a | a
        · have := hold r a
          omega
        · rw [List.mem_singleton.mp a]
          show 1 ≤ m.reqs + 1 ∧ m.reqs + 1 ≤ m.reqs + 1 ∧ 1 ≤ m.reqs + 1 ∧ m.reqs + 1 ≤ m.reqs + 1 ∧ (1 : Int) ≤ 1 ∧ (1 : Int) ≤ m.reqs + 1 ∧ 0 ≤ at_ ∧ at_ ≤ 1000
          omega
    · have := hold r hrm
      omega
  · show StOk m.rule (if asksF z m page = true then (toldF z m page).1 else m.st) (m.reqs + 1)
    have hold := h.st.mono (show m.reqs ≤ m.reqs + 1 by omega)
    split
    · have hrs := ruleF_st (es := m.ents z) (page := page) (need := needF z m page) h.rule h.reqs.1 h.st
      unfold toldF answerF
      cases e : ruleF m.rule m.st (m.ents z) page (needF z m page) with
      | ok st' o =>
        dsimp only
        split
        · exact hrs.1 st' o e
        · exact hold
      | no st' =>
        dsimp only
        split
        · exact hrs.2 st' e
        · exact hold
      | bad => exact hold
    · exact hold
  · have hs := sum_drop (szOf z) m.pgs h.nodup (outF z m page) hok.1 fun x hx => (hok.2 x hx).1
    have hu : ((m.pgs).map (szOf z)).sum ≤ m.share := by
      have h1 : usedR z m.rows ≤ m.share := h.used
      rw [used_pgs] at h1
      exact h1
    have h0 := sum_nonneg hz (outF z m page)
    show usedR z (reqF z m at_ page).rows ≤ m.share
    rw [used_pgs]
    show ((reqF z m at_ page).pgs.map (szOf z)).sum ≤ m.share
    rw [hpg]
    split
    · rename_i hc
      have hk := hc.1
      unfold keptF at hk
      rw [Bool.and_eq_true] at hk
      obtain ⟨out, ho⟩ := Option.isSome_iff_exists.mp hk.2
      have hen := out_enough hz h hk.1 ho
      have hout : outF z m page = out := by
        unfold outF
        rw [if_pos hk.1, ho]
        rfl
      rw [hout] at hs ⊢
      rw [List.map_append, show [page].map (szOf z) = [szOf z page] from rfl, sum_snoc]
      have hneed : m.used z + szOf z page - m.share ≤ needF z m page := by
        unfold needF
        rw [if_neg hc.2]
        split <;> omega
      have hus : m.used z = ((m.pgs).map (szOf z)).sum := used_pgs z m.rows
      omega
    · omega


end N32
set_option Elab.async false
set_option linter.all false
set_option maxRecDepth 100000
set_option maxHeartbeats 4000000

namespace N32
open PySem PySem.Spec PyProof.Rows L2 Evl
/-! ### held pages fit -/
theorem sum_part (f : Str → Int) (q : Str → Bool) : ∀ l : List Str, (l.map f).sum = ((l.filter q).map f).sum + ((l.filter fun x => !q x).map f).sum
  | [] => by simp
  | a :: l => by
    have ih := sum_part f q l
    rw [List.map_cons, List.sum_cons, List.filter_cons, List.filter_cons]
    cases q a with
    | true =>
      simp only [Bool.not_true, if_true, List.map_cons, List.sum_cons]
      rw [if_neg (by decide)]
      omega
    | false =>
      simp only [Bool.not_false, if_true]
      rw [if_neg (by decide), List.map_cons, List.sum_cons]
      omega
theorem sum_sub {z : Szs} (hz : SzOk z) {l l' : List Str} (hn : l.Nodup) (hn' : l'.Nodup) (hs : ∀ x ∈ l, x ∈ l') : (l.map (szOf z)).sum ≤ (l'.map (szOf z)).sum := by
  have h := sum_drop (szOf z) l' hn' l hn hs
  have := sum_nonneg hz (l'.filter fun x => decide (x ∉ l))
  omega
def shares (ms : Ms) : Int := (ms.map fun x => x.2.share).sum
theorem held_fit {z : Szs} (hz : SzOk z) : ∀ (ms : Ms) (there : List Str), (∀ x ∈ ms, MOk z x.2) → there.Nodup → (∀ p ∈ there, pgHeld ms p) → (there.map (szOf z)).sum ≤ shares ms
  | [], there, _, _, hh => by
    cases there with
    | nil => exact Int.le_refl _
    | cons p l => obtain ⟨x, hx, _⟩ := hh p List.mem_cons_self; simp at hx
  | x :: ms, there, hok, hn, hh => by
    have h1 := sum_part (szOf z) (fun p => decide (p ∈ x.2.pgs)) there
    have hx := hok x List.mem_cons_self
    have h2 := sum_sub hz (hn.sublist (List.filter_sublist (p := fun p => decide (p ∈ x.2.pgs)))) hx.nodup fun p hp => of_decide_eq_true (List.mem_filter.mp hp).2
    have hu : ((x.2.pgs).map (szOf z)).sum ≤ x.2.share := by
      have h1 : usedR z x.2.rows ≤ x.2.share := hx.used
      rw [used_pgs] at h1
      exact h1
    have h3 := held_fit hz ms (there.filter fun p => !decide (p ∈ x.2.pgs)) (fun y hy => hok y (List.mem_cons_of_mem _ hy)) (hn.sublist List.filter_sublist) fun p hp => by
      obtain ⟨a, b⟩ := List.mem_filter.mp hp
      obtain ⟨y, hy, hpy⟩ := hh p a
      rcases List.mem_cons.mp hy with rfl | hy
      · simp [hpy] at b
      · exact ⟨y, hy, hpy⟩
    unfold shares at *
    rw [List.map_cons, List.sum_cons]
    omega
theorem shares_req (z : Szs) (ms : Ms) (q : Req) : shares (reqMs z ms q) = shares ms := by
  unfold shares reqMs
  rw [List.map_map]
  congr 1
  apply List.map_congr_left
  intro x _
  show (if x.1 = q.path then _ else x : Str × M).2.share = x.2.share
  split <;> rfl
/-- what holds of all machines between two requests, n asked -/
structure MsIn (z : Szs) (ms : Ms) (n at_ : Int) : Prop where
  ok : MsOk z ms
  reqs : ∀ x ∈ ms, x.2.reqs ≤ n ∧ x.2.moment ≤ at_
theorem MsIn.req {z : Szs} {ms : Ms} {n at_ : Int} {q : Req} (h : MsIn z ms n at_) (hz : SzOk z) (hq : ReqOk q) (hn : n < 100) (ha : at_ ≤ q.at_) : MsIn z (reqMs z ms q) (n + 1) q.at_ := by
  refine ⟨⟨by rw [reqMs_paths]; exact h.ok.nodup, fun x hx => ?_, fun x hx => ?_⟩, fun x hx => ?_⟩
  · obtain ⟨y, hy, rfl⟩ := List.mem_map.mp hx
    show MOk z (if y.1 = q.path then (y.1, reqF z y.2 q.at_ q.page) else y : Str × M).2
    split
    · exact reqF_ok (h.ok.ok y hy) hz hq.page hq.at0 hq.at1 (by have := (h.reqs y hy).1; omega)
    · exact h.ok.ok y hy
  · have : x.1 ∈ (reqMs z ms q).map (·.1) := List.mem_map_of_mem hx
    rw [reqMs_paths] at this
    obtain ⟨w, hw, e⟩ := List.mem_map.mp this
    rw [← e]
    exact h.ok.paths w hw
  · obtain ⟨y, hy, rfl⟩ := List.mem_map.mp hx
    have := h.reqs y hy
    show (if y.1 = q.path then (y.1, reqF z y.2 q.at_ q.page) else y : Str × M).2.reqs ≤ n + 1 ∧ (if y.1 = q.path then (y.1, reqF z y.2 q.at_ q.page) else y : Str × M).2.moment ≤ q.at_
    split
    · show y.2.reqs + 1 ≤ n + 1 ∧ q.at_ ≤ q.at_
      omega
    · omega
/-- held pages are in the set -/
theorem held_there {z : Szs} {ms : Ms} {there out : List Str} {q : Req} (hM : MsOk z ms) (hT : ∀ p, pgHeld ms p → p ∈ there) (ho : ∀ p ∈ out, ¬ pgHeld (reqMs z ms q) p) : ∀ p, pgHeld (reqMs z ms q) p → p ∈ thereF there q.page out := by
  intro p hp
  refine List.mem_filter.mpr ⟨?_, decide_eq_true fun h => ho p h hp⟩
  obtain ⟨x, hx, hpx⟩ := hp
  obtain ⟨y, hy, rfl⟩ := List.mem_map.mp hx
  have old : ∀ p, p ∈ there → p ∈ thereF1 there q.page := fun p h => by
    unfold thereF1
    split
    · exact h
    · exact List.mem_append.mpr (.inl h)
  split at hpx
  · rcases (pgs_req (hM.ok y hy).nodup).mp hpx with h | h
    · exact old p (hT p ⟨y, hy, h.1⟩)
    · rw [h.1]
      unfold thereF1
      split
      · rename_i h2; exact h2
      · simp
  · exact old p (hT p ⟨y, hy, hpx⟩)


end N32
set_option Elab.async false
set_option linter.all false
set_option maxRecDepth 100000
set_option maxHeartbeats 4000000

namespace N32
open PySem PySem.Spec PyProof.Rows L2 Evl
abbrev SCOPE_l_some_outs : Scope := relS { kind := .function, names := [(".0", .local), ("_law_name", .cell), ("_law_paths_here", .free), ("_law_single", .free)], isGenerator := false, isCoroutine := false, more := [] } (defScope s_l_some_outs)
theorem thAt_app {qs : List Req} {outs l : List (List Str)} {i : Nat} (h : i ≤ outs.length) : thAt qs (outs ++ l) i = thAt qs outs i := by
  unfold thAt
  congr 1
  apply List.ext_getElem?
  intro j
  rw [List.getElem?_take, List.getElem?_take]
  split
  · rename_i hj
    apply Option.ext
    intro x
    obtain ⟨x1, x2⟩ := x
    rw [List.getElem?_zip_eq_some, List.getElem?_zip_eq_some, List.getElem?_append_left (by omega)]
  · rfl
/-- what some_outs knows before the i-th request -/
structure OutsIn (z : Szs) (frames : Int) (lf : List (Str × (Str × Int × Nat))) (qs : List Req) (outs : List (List Str)) (i : Nat) : Prop where
  len : outs.length = i
  step : ∀ j q o, qs[j]? = some q → outs[j]? = some o → StepOk z frames (msAt z (ms0 lf) qs j) (thAt qs outs j) q o
  pg : ∀ o ∈ outs, o.length ≤ 8 ∧ ∀ p ∈ o, p ∈ pagesL
/-- all that holds before the i-th request; at_: no machine is later -/
structure LoopIn (z : Szs) (frames : Int) (lf : List (Str × (Str × Int × Nat))) (qs : List Req) (outs : List (List Str)) (i : Nat) (at_ : Int) : Prop where
  msin : MsIn z (msAt z (ms0 lf) qs i) i at_
  paths : (msAt z (ms0 lf) qs i).map (·.1) = lf.map (·.1)
  share : shares (msAt z (ms0 lf) qs i) ≤ frames
  nd : (thAt qs outs i).Nodup
  pg : ∀ p ∈ thAt qs outs i, p ∈ pagesL
  held : ∀ p, pgHeld (msAt z (ms0 lf) qs i) p → p ∈ thAt qs outs i
  oin : OutsIn z frames lf qs outs i
theorem LoopIn.next {z : Szs} {frames : Int} {lf : List (Str × (Str × Int × Nat))} {qs : List Req} {outs : List (List Str)} {i : Nat} {at_ : Int} {q : Req} {o : List Str} (h : LoopIn z frames lf qs outs i at_) (hz : SzOk z) (hQ : ReqsOk qs) (hq : qs[i]? = some q) (ha : at_ ≤ q.at_) (hp : q.path ∈ lf.map (·.1))
    (hO : OutOk z frames (reqMs z (msAt z (ms0 lf) qs i) q) (thereF1 (thAt qs outs i) q.page) o) : LoopIn z frames lf qs (outs ++ [o]) (i + 1) q.at_ := by
  have hqok := hQ.ok q (List.mem_of_getElem? hq)
  have hi := (List.getElem?_eq_some_iff.mp hq).1
  have h40 := hQ.len
  have hol : (outs ++ [o])[i]? = some o := by rw [← h.oin.len, List.getElem?_append_right (Nat.le_refl _), Nat.sub_self]; rfl
  have hth0 : ∀ j, j ≤ i → thAt qs (outs ++ [o]) j = thAt qs outs j := fun j hj => thAt_app (by rw [h.oin.len]; exact hj)
  have hst : StepOk z frames (msAt z (ms0 lf) qs i) (thAt qs outs i) q o := ⟨h.msin.ok, hqok, by rw [h.paths]; exact hp, fun x hx => by have := (h.msin.reqs x hx).2; omega, h.nd, h.pg, hO⟩
  have hth : thAt qs (outs ++ [o]) (i + 1) = thereF (thAt qs outs i) q.page o := by rw [thAt_succ hq hol, hth0 i (Nat.le_refl _)]
  have hpg1 := thereF1_pg (page := q.page) h.pg hqok.page
  refine ⟨?_, ?_, ?_, ?_, ?_, ?_, ?_⟩
  · rw [msAt_succ hq]
    have := h.msin.req hz hqok (by omega) ha
    exact this
  · rw [msAt_succ hq, reqMs_paths]; exact h.paths
  · rw [msAt_succ hq, shares_req]; exact h.share
  · rw [hth]; exact (thereF1_nd h.nd).sublist List.filter_sublist
  · rw [hth]; exact fun p hp => hpg1 p (List.mem_filter.mp hp).1
  · rw [msAt_succ hq, hth]; exact held_there h.msin.ok h.held hO.free
  · refine ⟨by rw [List.length_append, h.oin.len]; rfl, fun j q2 o2 hq2 ho2 => ?_, fun o2 ho2 => ?_⟩
    · by_cases hj : j < outs.length
      · rw [List.getElem?_append_left hj] at ho2
        rw [hth0 j (by rw [h.oin.len] at hj; omega)]
        exact h.oin.step j q2 o2 hq2 ho2
      · have hji : j = i := by
          have := (List.getElem?_eq_some_iff.mp ho2).1
          rw [List.length_append, List.length_singleton] at this
          have := h.oin.len
          omega
        subst hji
        rw [hol] at ho2
        cases ho2
        rw [hq] at hq2
        cases hq2
        rw [hth0 j (Nat.le_refl _)]
        exact hst
    · rcases List.mem_append.mp ho2 with a | a
      · exact h.oin.pg o2 a
      · rw [List.mem_singleton.mp a]
        have hs : ∀ p ∈ o, p ∈ pagesL := fun p hp => hpg1 p (hO.sub p hp)
        exact ⟨nodup_len (l' := pagesL) hO.nodup hs, hs⟩
def heldL (ms : Ms) : List Str := pagesL.filter fun p => !decide (holdersF ms p = [])
theorem abc_size : ("abcdefgh" : Str).cps.size = 8 := by decide +kernel
section
variable {K : PySem.W.Frag} {σ : L2.St} {H : Hp} {ta tb tl td : TE}
/-- [one for one in paths if name in single[one]] -/
theorem el_holders {l d : Addr} {mx : List MY} {z : Szs} {name : Str} {j m n : Nat} {vs : List Nat} {R : List HP} (hl : Ev tl σ H (.ref l)) (hp : SqL K H l ((mx.map (·.path)).map V.str)) (hd : H d = some (.dK (mdK mx))) (hM : ∀ y ∈ mx, ∃ w, MachV K H y.a z y.m w) (hnd : (mx.map (·.path)).Nodup) (hlen : mx.length ≤ 1000)
    (hw : ∀ x, wipe ((wipe σ vs).set j (some x)) vs = wipe σ vs) (hj : ∀ x, ((wipe σ vs).set j (some x))[j]? = some (some x)) (hm : ∀ x, ((wipe σ vs).set j (some x))[m]? = some (some (.str name))) (hn : ∀ x, ((wipe σ vs).set j (some x))[n]? = some (some (.ref d))) :
    EvL (tLc (iList K tl) (gName j) (tTest (tOp (rInOwn K) (tVar m) (tDGet (tVar n) (tVar j)))) (tVar j) vs) σ H ((holdersF (msOf mx) name).map V.str) := by
  have e : (holdersF (msOf mx) name).map V.str = given ((mx.map (·.path)).map V.str).length (fun i => decide (name ∈ (mx.getD i myD).m.pgs)) (fun i => .str (mx.getD i myD).path) := by
    unfold given holdersF msOf
    rw [List.length_map, List.length_map]
    have e := range_map_get mx myD (fun t => t)
    rw [List.map_id'] at e
    conv => lhs; rw [← e]
    rw [List.filter_map, List.filter_map, List.map_map, List.map_map, List.map_map]
    rfl
  rw [e]
  refine el_lcW _ _ (wi_list hl hp) walk_list (by rw [List.length_map, List.length_map]; omega) (fun H1 e1 => ex_l e1 hp) fun i H1 x H2 hi e1 y R2 hR => ?_
  obtain ⟨rfl, hx⟩ := y
  rw [List.getElem?_map, List.getElem?_map] at hx
  obtain ⟨pa, hpa, rfl⟩ := Option.map_eq_some_iff.mp hx
  obtain ⟨y, hy, rfl⟩ := Option.map_eq_some_iff.mp hpa
  have hg : mx.getD i myD = y := by rw [List.getD, hy]; rfl
  rw [hg] at hR
  obtain ⟨w, hw'⟩ := hM y (List.mem_of_getElem? hy)
  obtain ⟨l1, y2, l2, e2, e3, _, hv⟩ := mdK_find (p := y.path) (List.mem_map_of_mem (List.mem_of_getElem? hy))
  have hyy : y2 = y := by
    have hy2 : y2 ∈ mx := by rw [e2]; simp
    obtain ⟨k, hk⟩ := List.mem_iff_getElem?.mp hy2
    have a1 : (mx.map (·.path))[k]? = some y.path := by rw [List.getElem?_map, hk]; exact congrArg some e3
    have a2 : (mx.map (·.path))[i]? = some y.path := by rw [List.getElem?_map, hy]; rfl
    have := nd_ix hnd a1 a2
    subst this
    rw [hk] at hy
    exact Option.some.inj hy
  rw [hyy] at hv
  refine hR _ _ (Ex.refl _) (hw _) (et_test (ev_inOwn (ev_var (hm _)) (ev_dget (k := .str y.path) (v := .ref y.a) (ev_var (hn _)) (ev_var (hj _)) ?_) (hw'.ex e1))) fun _ => ev_var (hj _)
  rw [← hv]
  exact DGet.k (k := .inr y.path) (e1 _ _ hd)
end

/-! ### what goes out -/
theorem inHeld {msn : Ms} {x : Str} : x ∈ heldL msn ↔ x ∈ pagesL ∧ pgHeld msn x := by
  unfold heldL
  rw [List.mem_filter]
  refine and_congr_right fun _ => ?_
  by_cases h : pgHeld msn x
  · have : holdersF msn x ≠ [] := fun z => holders_nil.mp z h
    simp [this, h]
  · simp [holders_nil.mpr h, h]
theorem thereF1_cat (th : List Str) (page : Str) : th.map V.str ++ (List.replicate (if (!decide (page ∈ th)) = true then (1 : Int) else 0).toNat [V.str page]).flatten = (thereF1 th page).map V.str := by
  unfold thereF1
  by_cases h : page ∈ th
  · simp [h]
  · rw [if_neg h, decide_eq_false h, List.map_append]
    rfl
theorem OutsL.snoc {H : Hp} {os : List V} {outs : List (List Str)} {u : Addr} {o : List Str} (h : OutsL H os outs) (hu : H u = some (.tup (o.map V.str))) : OutsL H (os ++ [.ref u]) (outs ++ [o]) := by
  refine ⟨by rw [List.length_append, List.length_append, h.len]; rfl, fun i x o2 a b => ?_⟩
  by_cases hi : i < os.length
  · rw [List.getElem?_append_left hi] at a
    rw [List.getElem?_append_left (by rw [← h.len]; exact hi)] at b
    exact h.at_ i x o2 a b
  · rw [List.getElem?_append_right (by omega)] at a
    rw [List.getElem?_append_right (by rw [← h.len]; omega), ← h.len] at b
    have hz : i - os.length = 0 := by
      have := (List.getElem?_eq_some_iff.mp a).1
      simp at this
      omega
    rw [hz] at a b
    cases a
    cases b
    exact ⟨u, rfl, hu⟩
theorem eraseIdx_map' {α β : Type} (f : α → β) : ∀ (l : List α) (n : Nat), (l.map f).eraseIdx n = (l.eraseIdx n).map f
  | [], _ => rfl
  | _ :: _, 0 => rfl
  | a :: l, n + 1 => by
    rw [List.map_cons, List.eraseIdx_cons_succ, List.eraseIdx_cons_succ, List.map_cons, eraseIdx_map' f l n]
theorem erase_mem {l : List Str} (hn : l.Nodup) {n : Nat} {x : Str} (h : l[n]? = some x) : (l.eraseIdx n).Nodup ∧ ∀ y, y ∈ l.eraseIdx n ↔ y ∈ l ∧ y ≠ x := by
  have e : l.eraseIdx n = l.filter fun y => y != x := by
    induction l generalizing n with
    | nil => simp at h
    | cons a l ih =>
      rw [List.nodup_cons] at hn
      cases n with
      | zero =>
        have hx : a = x := by simpa using h
        subst hx
        rw [List.eraseIdx_cons_zero, List.filter_cons, if_neg (by simp)]
        exact (List.filter_eq_self.mpr fun y hy => by
          have : y ≠ a := fun z => hn.1 (z ▸ hy)
          simpa using this).symm
      | succ n =>
        have hx : l[n]? = some x := by simpa using h
        have : a ≠ x := fun z => hn.1 (z ▸ List.mem_of_getElem? hx)
        rw [List.eraseIdx_cons_succ, List.filter_cons, if_pos (by simpa using this), ih hn.2 hx]
  rw [e]
  refine ⟨hn.sublist List.filter_sublist, fun y => ?_⟩
  rw [List.mem_filter]
  simp
section
variable {K : PySem.W.Frag} {σ : L2.St} {H : Hp} {D : Ends} {tz tu : TS} {ta tb te tl : TE} {t : TT}
theorem q_parLL {i j : Nat} {xs ys : List V} (ha : EvL ta σ H xs) (hb : EvL tb σ H ys) (k : ∀ p H1, H p = none → Ex H H1 → H1 p = some (.lst xs) → ∀ u H2, H1 u = none → Ex H1 H2 → H2 u = some (.lst ys) → tz D ((σ.set i (some (.ref p))).set j (some (.ref u))) H2) :
    tSeq (tPar i j (tCons ta (tCons tb tNil))) tz D σ H :=
  ha H (Ex.refl _) _ fun p H1 hp e1 h1 => hb H1 e1 _ fun u H2 hu e2 h2 => ⟨_, _, rfl, k p H1 hp e1 h1 u H2 hu e2 h2⟩
theorem el_catV {a : Addr} {xs ys : List V} (ha : Ev ta σ H (.ref a)) (h : H a = some (.lst xs)) (hb : EvL tb σ H ys) (hl : xs.length + ys.length ≤ 100000) : EvL (tOp rCat ta tb) σ H (xs ++ ys) := fun H1 e Q q =>
  ha H1 e _ fun H2 e2 => hb H2 (e.trans e2) _ fun p H3 hp e3 h3 => ⟨a, p, xs, ys, rfl, rfl, e3 _ _ (e2 _ _ (e _ _ h)), h3, sz_of hl, fun r hr => q r _ (fresh_back (e2.trans e3) hr) ((e2.trans e3).trans (Ex.new hr)) upd_same⟩
theorem ev_neVL {a : Addr} {xs ys : List Str} (ha : Ev ta σ H (.ref a)) (h : H a = some (.lst (xs.map V.str))) (hb : EvL tb σ H (ys.map V.str)) (h1 : ∀ x ∈ xs, PyData.strOk x = true) (h2 : ∀ x ∈ ys, PyData.strOk x = true) : Ev (tOp (rNeD K) ta tb) σ H (.bl (!decide (xs = ys))) := fun H1 e Q q =>
  ha H1 e _ fun H2 e2 => hb H2 (e.trans e2) _ fun u2 H3 _ e3 hu2 => ⟨_, _, .lst (sq_of (e3 _ _ (e2 _ _ (e _ _ h)))) (txt_all xs), .lst (sq_of hu2) (txt_all ys), txtL_shaped h1, txtL_shaped h2, by
    show Q (.bl (!PyData.eqv (.list _) (.list _))) H3
    rw [show PyData.eqv (.list (xs.map .str)) (.list (ys.map .str)) = decide (xs = ys) by simp only [PyData.eqv]; exact txt_eqv xs ys]
    exact q H3 (e2.trans e3)⟩
theorem s_appW {l : Addr} {xs ys : List V} (hl : H l = some (.lst xs)) (ha : Ev ta σ H (.ref l)) (h : EvW te σ H ys) (hz : xs.length < 100000) (k : ∀ u H1, Ex H H1 → H1 u = some (.tup ys) → D.nx σ (upd H1 l (.lst (xs ++ [.ref u])))) :
    tDrop (tBM K "list" rAppend ta (tCons te tNil)) D σ H := ha H (Ex.refl H) _ fun H1 e1 =>
  ⟨Or.inl ⟨rfl, xs, sq_of (e1 l _ hl)⟩, h H1 e1 _ fun u H2 e2 h2 => ⟨l, xs, .ref u, rfl, rfl, e2 l _ (e1 l _ hl), sz_lt hz, k u H2 (e1.trans e2) h2⟩⟩
/-- [x for x in l if ..] of texts -/
theorem el_filt {l : Addr} {xs : List Str} {f : Str → Bool} {j : Nat} {vs : List Nat} (h : Ev tl σ H (.ref l)) (hx : H l = some (.lst (xs.map V.str))) (hn : xs.length ≤ 40000) (hw : ∀ x, wipe ((wipe σ vs).set j (some x)) vs = wipe σ vs) (hj : ∀ x, ((wipe σ vs).set j (some x))[j]? = some (some x))
    (ht : ∀ x ∈ xs, ∀ H1, Ex H H1 → EvT t ((wipe σ vs).set j (some (.str x))) H1 (f x)) : EvL (tLc (iList K tl) (gName j) t (tVar j) vs) σ H ((xs.filter f).map V.str) := by
  have e : (xs.filter f).map V.str = given (xs.map V.str).length (fun i => f (xs.getD i "")) (fun i => .str (xs.getD i "")) := by
    unfold given
    rw [List.length_map]
    have e := range_map_get xs "" (fun t => t)
    rw [List.map_id'] at e
    conv => lhs; rw [← e]
    rw [List.filter_map, List.map_map]
    rfl
  rw [e]
  refine el_lcW _ _ (wi_list h (sq_of hx)) walk_list (by rw [List.length_map]; omega) (fun H1 e1 => sq_of (e1 _ _ hx)) fun i H1 x H2 hi e1 y R2 hR => ?_
  obtain ⟨rfl, hxi⟩ := y
  rw [List.getElem?_map] at hxi
  obtain ⟨nm, hnm, rfl⟩ := Option.map_eq_some_iff.mp hxi
  have hg : xs.getD i "" = nm := by rw [List.getD, hnm]; rfl
  rw [hg] at hR
  exact hR _ _ (Ex.refl _) (hw _) (ht nm (List.mem_of_getElem? hnm) _ e1) fun _ => ev_var (hj _)
theorem q_whileM (M : L2.St → Hp → Prop) (W : Nat → L2.St → Hp → Prop) (m0 : Nat) (h0 : W m0 σ H)
    (hs : ∀ m σ' H', W m σ' H' → ∃ b, EvT t σ' H' b ∧ (b = true → ∀ H1, Ex H' H1 → ∃ N : L2.St → Hp → Prop, (∀ σ2 H2, N σ2 H2 → ∃ m', m' < m ∧ W m' σ2 H2) ∧ ∀ Dk : L2.St → Hp → Prop, (∀ σ2 H2, M σ2 H2 → Dk σ2 H2) → tu { D with nx := N, ct := N, bk := Dk } σ' H1) ∧ (b = false → ∀ H1, Ex H' H1 → M σ' H1))
    (k : ∀ σ' H', M σ' H' → tz D σ' H') : tSeq (tWhile t tu) tz D σ H :=
  q_while W m0 h0 fun m σ' H' hw => by
    obtain ⟨b, hb, h1, h2⟩ := hs m σ' H' hw
    refine ⟨b, hb, fun hb H1 e => ?_, fun hb H1 e => k _ _ (h2 hb H1 e)⟩
    obtain ⟨N, hN, h⟩ := h1 hb H1 e
    exact ⟨N, hN, h _ k⟩
end

section
variable {P : Program} {w : World} {K : PySem.W.Frag} {mg : Str → Option Value} {base : Heap}
abbrev n_l_some_outs : List Str := ["_law_pool", "_law_setup_here", "_law_trace_here", "_law_paths_here", "_law_single", "_law_there", "_law_found", "_law_path", "_law_name", "_law_share", "_law_rule_here", "_law_at", "_law_kind", "_law_page", "_law_held", "_law_out", "_law_free", "_law_full", "_law_one"]
theorem sc_l_some_outs : FnScope n_l_some_outs ["_law_pool", "_law_setup_here", "_law_trace_here", "_law_paths_here"] (defScope s_l_some_outs) := C8.fnScope_by (by decide +kernel)
def sp_l_some_outs (K : PySem.W.Frag) : Sp := fun vs H Q _ => ∃ (p s tr lp : Addr) (z : Szs) (frames room : Int) (ts : List (TnS (Kid 2))) (lf : List (Str × (Str × Int × Nat))) (qs : List Req) (R : List HP), vs = [.ref p, .ref s, .ref tr, .ref lp] ∧ Sat H (PoolP p :: SetupP K s frames z ts :: TraceP K tr qs :: pt lp (.lst ((lf.map (·.1)).map V.str)) :: R) ∧ SzOk z ∧ TreeS (TreeOk 2) topN room ts ∧ LfOk ts lf ∧ ReqsOk qs ∧ (∀ q ∈ qs, q.path ∈ lf.map (·.1)) ∧ shares (ms0 lf) ≤ frames ∧
  ∀ ol outs H', Sat H' (OutsP ol outs :: PoolP p :: SetupP K s frames z ts :: TraceP K tr qs :: pt lp (.lst ((lf.map (·.1)).map V.str)) :: R) → RunOk z frames lf qs outs → (∀ o ∈ outs, o.length ≤ 8 ∧ ∀ p ∈ o, p ∈ pagesL) → Tu H H' → Q (.ref ol) H'
theorem ok_l_some_outs  (T : Ctx K mg) : C8.Cal P w K mg base 7 "_law_some_outs" (sp_l_some_outs K) [] := by
  refine cal_of T.f_l_some_outs (T.glo _ (by decide)) (N := n_l_some_outs) sc_l_some_outs (fun _ _ _ _ _ _ us hl => match us, hl with | [_, _, _, _], _ => rfl) (fun vs H Q E h => ?len) (fun cdv A outer s H vs Q E hr h => ?body)
  case len =>
    obtain ⟨_, _, _, _, _, _, _, _, _, _, _, rfl, _⟩ := h
    rfl
  case body =>
    obtain ⟨p, s', tr, lp, z, frames, room, ts, lf, qs, R, rfl, S, hz, hTr, hL, hQ, hqp, hsh, k⟩ := h
    refine ⟨_, (pss_cons (ps_asg (pe_tup (pa_cons pe_dnewK (pa_cons (pe_lst pa_nil) (pa_cons (pe_lst pa_nil) pa_nil)))) (pg_tupK (K := K) (n := 3) (by rfl) (pgs_cons (pg_name (i := 4) sc_l_some_outs.nd rfl (Or.inr rfl)) (pgs_cons (pg_name (i := 5) sc_l_some_outs.nd rfl (Or.inl rfl)) (pgs_cons (pg_name (i := 6) sc_l_some_outs.nd rfl (Or.inl rfl)) pgs_nil))))) (pss_cons (ps_for PassesOwn.never (by rfl) (pi_listK (K := K) (pv 3)) (pg_name (i := 7) sc_l_some_outs.nd rfl (Or.inl rfl)) (pss_cons (ps_asg (C8.pe_mt (ok_Setup_found T) hr (by decide) (pv 1) (pa_cons (pv 7) pa_nil)) (pg_tupK (K := K) (n := 3) (by rfl) (pgs_cons (pg_name (i := 8) sc_l_some_outs.nd rfl (Or.inl rfl)) (pgs_cons (pg_name (i := 9) sc_l_some_outs.nd rfl (Or.inl rfl)) (pgs_cons (pg_name (i := 10) sc_l_some_outs.nd rfl (Or.inl rfl)) pgs_nil))))) (pss_one (ps_dput (hu_of hr) (pv 4) (pv 7) (pe_mkK (ok_Alone_init T) hr (by decide) (by rfl) (pa_cons (pv 9) (pa_cons (pv 10) pa_nil)) (pk_cons (C8.pe_mt0 (ok_Setup_sizes T) hr (by decide) (pv 1)) pk_nil)) rfl)))) (pss_cons (ps_for PassesOwn.never (by rfl) (pi_listK (K := K) (C8.pe_mt0 (ok_Trace_rows T) hr (by decide) (pv 2))) (pg_tupK (K := K) (n := 4) (by rfl) (pgs_cons (pg_name (i := 11) sc_l_some_outs.nd rfl (Or.inl rfl)) (pgs_cons (pg_name (i := 12) sc_l_some_outs.nd rfl (Or.inl rfl)) (pgs_cons (pg_name (i := 7) sc_l_some_outs.nd rfl (Or.inl rfl)) (pgs_cons (pg_name (i := 13) sc_l_some_outs.nd rfl (Or.inl rfl)) pgs_nil))))) (pss_cons (ps_expr (C8.pe_mt (ok_Alone_request T) hr (by decide) (pe_dget (hu_of hr) (pv 4) (pv 7) (fun _ _ => rfl)) (pa_cons (pv 11) (pa_cons (pv 12) (pa_cons (pv 13) pa_nil))))) (pss_cons (ps_set (i := 14) sc_l_some_outs.nd rfl (Or.inr rfl) (pe_lc (own := [("_law_name", 8)]) (by rfl) sc_l_some_outs.nd (pi_str pe_str) (blkOk_by (own := [("_law_name", 8)]) (N := n_l_some_outs) (sc := defScope s_l_some_outs) (by decide +kernel)) (fun _ _ _ _ _ => pg_name (i := 8) sc_l_some_outs.nd rfl (Or.inr rfl)) (fun _ _ _ _ _ => by exact (pts_one (pt_cmpR (op_neDK (K := K) hr.units) (pe_lc (own := [("_law_one", 18)]) (by rfl) sc_l_some_outs.nd (pi_listK (K := K) (pv 3)) (blkOk_by (own := [("_law_one", 18)]) (N := n_l_some_outs) (sc := SCOPE_l_some_outs) (by decide +kernel)) (fun _ _ _ _ _ => pg_name (i := 18) sc_l_some_outs.nd rfl (Or.inl rfl)) (fun _ _ _ _ _ => by exact (pts_one (pt_cmpR (op_in_own (ok_Alone_contains T) hr (by decide)) (pv 8) (pe_dget (hu_of hr) (pv 4) (pv 18) (fun _ _ => rfl)) (by rfl)))) (fun _ _ _ _ _ => by exact (pv 18))) (pe_lst pa_nil) (by rfl)))) (fun _ _ _ _ _ => by exact (pv 8)))) (pss_cons (ps_par (i := 5) (j := 15) (by rfl) sc_l_some_outs.nd rfl rfl (by decide) rfl rfl (pa_cons (pe_op op_cat (pv 5) (pe_op op_rep (pe_lst (pa_cons (pv 13) pa_nil)) (pe_callTy call_int1 (by rfl) (T.free _ (by decide)) (by decide +kernel) (pa_cons (pe_cmpR (op_notIn_seqK (K := K)) (pv 13) (pv 5) (by rfl)) pa_nil)))) (pa_cons (pe_lst pa_nil) pa_nil)) (by rfl)) (pss_cons (ps_setLc (i := 16) (own := [("_law_name", 8)]) (by rfl) sc_l_some_outs.nd rfl rfl (sw_true rfl rfl rfl (by decide +kernel)) (pi_listK (K := K) (pv 5)) (blkOk_by (own := [("_law_name", 8)]) (N := n_l_some_outs) (sc := defScope s_l_some_outs) (by decide +kernel)) (fun _ _ _ _ _ => pg_name (i := 8) sc_l_some_outs.nd rfl (Or.inl rfl)) (fun _ _ _ _ _ => by exact (pts_one (pt_cmpR (op_notIn_seqK (K := K)) (pv 8) (pv 14) (by rfl)))) (fun _ _ _ _ _ => by exact (pv 8))) (pss_cons (ps_while PassesOwn.never (pt_cmpR (op_neDK (K := K) hr.units) (pv 16) (pe_lst pa_nil) (by rfl)) (pss_cons (ps_set (i := 17) sc_l_some_outs.nd rfl (Or.inl rfl) (pe_cmpR op_gt (pe_callB (cr_sumK (K := K) rfl) (by rfl) (T.free _ (by decide)) (by decide +kernel) (pa_cons (pe_lc (own := [("_law_name", 8)]) (by rfl) sc_l_some_outs.nd (pi_listK (K := K) (pv 5)) (blkOk_by (own := [("_law_name", 8)]) (N := n_l_some_outs) (sc := defScope s_l_some_outs) (by decide +kernel)) (fun _ _ _ _ _ => pg_name (i := 8) sc_l_some_outs.nd rfl (Or.inl rfl)) (fun _ _ _ _ _ => by exact pts_nil) (fun _ _ _ _ _ => by exact (C8.pe_mt (ok_Setup_size T) hr (by decide) (pv 1) (pa_cons (pv 8) pa_nil)))) pa_nil)) (pe_pr (ok_Setup_frames T) hr (by decide) (pv 1)) (by rfl))) (pss_cons (ps_if (PW.pt (pw_and (pt_not (pt_val (pv 17))) (pw_and1 (pt_cmpR op_gt (C8.pe_c (ok_l_draw T) hr (by decide) (by rfl) (pa_cons (pv 0) (pa_cons pe_int pa_nil))) pe_int (by rfl))))) (pss_one ps_break) pss_nil) (pss_cons (ps_set (i := 8) sc_l_some_outs.nd rfl (Or.inl rfl) (pe_bmK (K := K) PySem.F.plainAttrs_list PySem.F.slot_list_pop PySem.F.type_list_pop mt_popAt (pv 16) (pa_cons (C8.pe_c (ok_l_draw T) hr (by decide) (by rfl) (pa_cons (pv 0) (pa_cons (pe_callB (call_len_seqK (K := K)) (by rfl) (T.free _ (by decide)) (by decide +kernel) (pa_cons (pv 16) pa_nil)) pa_nil))) pa_nil))) (pss_cons (ps_expr (pe_bmK (K := K) PySem.F.plainAttrs_list PySem.F.slot_list_remove PySem.F.type_list_remove mt_removeX (pv 5) (pa_cons (pv 8) pa_nil))) (pss_one (ps_expr (pe_bmK (K := K) PySem.F.plainAttrs_list PySem.F.slot_list_append PySem.F.type_list_append mt_append (pv 15) (pa_cons (pv 8) pa_nil))))))))) (pss_one (ps_expr (pe_bmK (K := K) PySem.F.plainAttrs_list PySem.F.slot_list_append PySem.F.type_list_append mt_append (pv 6) (pa_cons (pe_callTy (call_tuple_ofK (K := K)) (by rfl) (T.free _ (by decide)) (by decide +kernel) (pa_cons (pv 15) pa_nil)) pa_nil)))))))))) (pss_one (ps_ret (pv 6)))))), ?_⟩
    refine fun d hd => ⟨Nat.zero_le _, fun th hth => ⟨Nat.zero_le _, fun fo hfo => ⟨sz_of (by show 3 ≤ 100000; decide), fun t ht => ⟨t, _, rfl, st_of upd_same, rfl, _, _, rfl, _, _, rfl, _, _, rfl, rfl, ?_⟩⟩⟩⟩
    have S1 := ((((S.new (o := .dK (mdK [])) hd).new (o := .lst (([] : List Str).map V.str)) hth).new (o := .lst []) hfo).same (Ex.new (o := .tup [.ref d, .ref th, .ref fo]) ht))
    have t1 : Tu H (upd (upd (upd (upd H d (.dK [])) th (.lst [])) fo (.lst [])) t (.tup [.ref d, .ref th, .ref fo])) := ((Tu.new hd).trans (Tu.new hth)).trans ((Tu.new hfo).trans (Tu.new ht))
    have S1 : Sat (upd (upd (upd (upd H d (.dK [])) th (.lst [])) fo (.lst [])) t (.tup [.ref d, .ref th, .ref fo])) (pt fo (.lst []) :: pt th (.lst (([] : List Str).map V.str)) :: pt d (.dK (mdK [])) :: PoolP p :: SetupP K s' frames z ts :: TraceP K tr qs :: pt lp (.lst ((lf.map (·.1)).map V.str)) :: R) := S1
    generalize upd (upd (upd (upd H d (.dK [])) th (.lst [])) fo (.lst [])) t (.tup [.ref d, .ref th, .ref fo]) = H1 at S1 t1 ⊢
    have S2 : Sat H1 (pt d (.dK (mdK [])) :: al (machPs K z []) :: SetupP K s' frames z ts :: pt fo (.lst []) :: pt th (.lst (([] : List Str).map V.str)) :: PoolP p :: TraceP K tr qs :: pt lp (.lst ((lf.map (·.1)).map V.str)) :: R) := by
      have A := (S1.pull 4 rfl).pull 3 rfl
      have B := ((Sat.al (l' := machPs K z [])).mpr A).swap
      exact B
    -- a machine for each path
    refine q_forL (g := gName 7) (xs := (lf.map (·.1)).map V.str) (ev_var rfl) (sq_of (S2.get 7 rfl)) (fun i σ' H' => (∃ a7 a8 a9 a10, σ' = [some (.ref p), some (.ref s'), some (.ref tr), some (.ref lp), some (.ref d), some (.ref th), some (.ref fo), a7, a8, a9, a10, none, none, none, none, none, none, none, none]) ∧ Tu H1 H' ∧ ∃ mx, msOf mx = ms0 (lf.take i) ∧ Sat H' (pt d (.dK (mdK mx)) :: al (machPs K z mx) :: SetupP K s' frames z ts :: pt fo (.lst []) :: pt th (.lst (([] : List Str).map V.str)) :: PoolP p :: TraceP K tr qs :: pt lp (.lst ((lf.map (·.1)).map V.str)) :: R))
      (fun H3 e3 => ⟨⟨_, _, _, _, rfl⟩, Ex.tu e3, [], rfl, S2.same e3⟩) (fun i σ' H' _ q => sq_of (let ⟨_, _, mx, _, S⟩ := q; S.get 7 rfl)) ?_ ?_
    · rintro i x σ' H' hx ⟨⟨a1, a2, a3, a4, rfl⟩, p1, mx, p2, p3⟩
      rw [List.getElem?_map, List.getElem?_map] at hx
      obtain ⟨pt_, hpt, rfl⟩ := Option.map_eq_some_iff.mp hx
      obtain ⟨x, hxl, rfl⟩ := Option.map_eq_some_iff.mp hpt
      have hxm := List.mem_of_getElem? hxl
      have hxlen : mx.length ≤ 1000 := by
        have h1 := msOf_len p2
        have h2 : (ms0 (lf.take i)).length = (lf.take i).length := List.length_map _
        have h3 := hL.len
        rw [List.length_take] at h2
        omega
      refine q_found (x := x) (ev_var rfl) (ev_var rfl) (p3.pull 2 rfl) hTr.len hL hxm fun H4 e4 => ?_
      refine s_addM (x := x) rfl (p3.same e4) hz hL hxm (ms0_fresh hL.nodup hxl p2) (fun H5 e5 => ea_cons (ev_var rfl) (ea_cons (ev_var rfl) ea_nil)) (fun H5 e5 => ev_var rfl) (fun H5 S5 => ev_var rfl) (fun H5 => ev_var rfl) hxlen fun a H5 S5 t5 => ?_
      refine ⟨⟨_, _, _, _, rfl⟩, (p1.trans (Ex.tu e4)).trans t5, _, ?_, S5⟩
      rw [ms0_take hxl, ← p2]
      unfold msOf
      rw [List.map_append]
      rfl
    rintro σ' H3 ⟨⟨a1, a2, a3, a4, rfl⟩, t3, mx, hmx, S3⟩
    rw [List.length_map, List.length_map, List.take_length] at hmx
    obtain ⟨x6, S6t⟩ := TraceP.open_.mp (S3.pull 6 rfl)
    have hT6 := S6t.traceC
    have hxl := hT6.reqs.len
    have hbase : LoopIn z frames lf qs [] 0 0 := by
      refine ⟨⟨⟨?_, fun x hx => ?_, fun x hx => ?_⟩, fun x hx => ?_⟩, ?_, hsh, .nil, fun p hp => by simp [thAt] at hp, ?_, ⟨rfl, fun j q o _ h => by simp at h, fun o ho => by simp at ho⟩⟩
      · show ((ms0 lf).map (·.1)).Nodup
        unfold ms0
        rw [List.map_map]
        exact hL.nodup
      · obtain ⟨y, hy, rfl⟩ := List.mem_map.mp (show x ∈ ms0 lf from hx)
        obtain ⟨h1, h2, h3, h4, h5⟩ := hL.ok y hy
        exact ⟨h5, ⟨h3, h4⟩, ⟨Int.le_refl _, by show (0 : Int) ≤ 100; decide⟩, rfl, ⟨Int.le_refl _, by show (0 : Int) ≤ 1000; decide⟩, .nil, (fun p hp => nomatch hp), .nil, (fun r hr => nomatch hr), trivial, h3⟩
      · obtain ⟨y, hy, rfl⟩ := List.mem_map.mp (show x ∈ ms0 lf from hx)
        exact (hL.ok y hy).1
      · obtain ⟨y, hy, rfl⟩ := List.mem_map.mp (show x ∈ ms0 lf from hx)
        exact ⟨Int.le_refl _, Int.le_refl _⟩
      · show (ms0 lf).map (·.1) = _
        unfold ms0
        rw [List.map_map]
        rfl
      · rintro p ⟨x, hx, hpx⟩
        obtain ⟨y, hy, rfl⟩ := List.mem_map.mp (show x ∈ ms0 lf from hx)
        exact nomatch hpx
    -- request by request
    refine q_forNL (g := gTup K 4 (fun xs σ H Q => ∃ x r, xs = x :: r ∧ gName 11 x σ H fun σ H => ∃ x r', r = x :: r' ∧ gName 12 x σ H fun σ H => ∃ x r'', r' = x :: r'' ∧ gName 7 x σ H fun σ H => ∃ x r3, r'' = x :: r3 ∧ gName 13 x σ H fun σ H => r3 = [] ∧ Q σ H)) (xs := x6.xs) (el_meth (ev_var rfl) hT6.ins rfl ea_nil fun H4 e4 Q q => ⟨tr, x6.dx, x6.u, x6.xs, qs, rfl, hT6.ex e4, q⟩)
      (fun rp i σ' H' => (∃ thi a7 a8 a9 a10 a11 a12 a13 a14 a15 a16 a17 a18, σ' = [some (.ref p), some (.ref s'), some (.ref tr), some (.ref lp), some (.ref d), some (.ref thi), some (.ref fo), a7, a8, a9, a10, a11, a12, a13, a14, a15, a16, a17, a18] ∧ Tu H3 H' ∧ H' rp = some (.lst x6.xs) ∧ ∃ mx os outs at_, msOf mx = msAt z (ms0 lf) qs i ∧ LoopIn z frames lf qs outs i at_ ∧ (∀ q, qs[i]? = some q → at_ ≤ q.at_) ∧ OutsL H' os outs ∧
        Sat H' (pt d (.dK (mdK mx)) :: al (machPs K z mx) :: SetupP K s' frames z ts :: pt fo (.lst os) :: pt thi (.lst ((thAt qs outs i).map V.str)) :: PoolP p :: TraceP K tr qs :: pt lp (.lst ((lf.map fun x : Str × (Str × Int × Nat) => x.1).map V.str)) :: pt rp (.lst x6.xs) :: R)))
      (fun rp H4 hrp e4 h4 => ⟨th, a1, a2, a3, a4, none, none, none, none, none, none, none, none, rfl, Ex.tu e4, h4, mx, [], [], 0, hmx, hbase, fun q hq => (hQ.ok q (List.mem_of_getElem? hq)).at0, ⟨rfl, fun i x o h => by simp at h⟩, Sat.back (l := [_, _, _, _, _, _, _, _]) (S3.grow hrp e4 h4)⟩) (fun rp i σ' H' _ q => sq_of (let ⟨_, _, _, _, _, _, _, _, _, _, _, _, _, _, _, h, _⟩ := q; h)) ?_ ?_
    · rintro rp i v σ' H4 hv ⟨thi, a7, a8, a9, a10, a11, a12, a13, a14, a15, a16, a17, a18, rfl, p1, p2, mx, os, outs, at_, hmx, hLI, hat, hOu, S4⟩
      obtain ⟨q, hq, rq, rfl, hrq⟩ := (hT6.reqs.tu p1).get hv
      have hqm := List.mem_of_getElem? hq
      have hqok := hQ.ok q hqm
      have hqp1 := hqp q hqm
      have hM := hLI.msin.ok
      have hms : msOf mx = msAt z (ms0 lf) qs i := hmx
      have hnd : (mx.map (·.path)).Nodup := by rw [← msOf_paths, hms]; exact hM.nodup
      have hp2 : q.path ∈ mx.map (·.path) := by rw [← msOf_paths, hms, hLI.paths]; exact hqp1
      obtain ⟨l1, y, l2, e, hyp, hl1, hyv⟩ := mdK_find hp2
      subst e
      have hymem : (y.path, y.m) ∈ msAt z (ms0 lf) qs i := by rw [← hms]; exact List.mem_map.mpr ⟨y, by simp, rfl⟩
      have hyok := hM.ok _ hymem
      have hymom : y.m.moment ≤ at_ := (hLI.msin.reqs _ hymem).2
      refine ⟨rq, _, rfl, st_of hrq, rfl, _, _, rfl, _, _, rfl, _, _, rfl, _, _, rfl, rfl, ?_⟩
      obtain ⟨wy, hwy⟩ := Sat.machs (Sat.al.mp (S4.pull 1 rfl)) y (by simp)
      have S5 := ms_focus.mp (S4.pull 1 rfl)
      refine ⟨_, rfl, _, rfl, d, .ref y.a, rfl, ?_, y.a, wy.dx, _, rfl, hwy.ins, rfl, _, rfl, _, rfl, _, rfl, y.a, z, y.m, q.at_, q.kind, q.page, _, rfl, S5, hyok, hz, by have := hat q hq; omega, by have := hqok.at1; omega, hqok.kind, hqok.page, fun mv mdx mo mu mserved H5 S6 hmo t5 => ?_⟩
      · rw [← hyv]
        exact DGet.k (k := .inr q.path) (S4.get 0 rfl)
      refine q_nx ?_
      let y' : MY := ⟨y.path, y.a, reqF z y.m q.at_ q.page⟩
      have hms' : msOf (l1 ++ y' :: l2) = reqMs z (msAt z (ms0 lf) qs i) q := by rw [← hms]; exact (reqMs_mid hyp hnd).symm
      have S6b := (ms_focus (y := y')).mpr S6.tail
      have S7 : Sat H5 (pt d (.dK (mdK (l1 ++ y' :: l2))) :: al (machPs K z (l1 ++ y' :: l2)) :: SetupP K s' frames z ts :: pt fo (.lst os) :: pt thi (.lst ((thAt qs outs i).map V.str)) :: PoolP p :: TraceP K tr qs :: pt lp (.lst ((lf.map fun x : Str × (Str × Int × Nat) => x.1).map V.str)) :: pt rp (.lst x6.xs) :: R) := by
        rw [mdK_mid l1 l2 y (reqF z y.m q.at_ q.page)]
        exact S6b.swap
      clear S6b S6 S5
      have hmxp : (l1 ++ y' :: l2).map (·.path) = lf.map (·.1) := by rw [← msOf_paths, hms', reqMs_paths]; exact hLI.paths
      have hnd' : ((l1 ++ y' :: l2).map (·.path)).Nodup := by rw [hmxp]; exact hL.nodup
      have hlen' : (l1 ++ y' :: l2).length ≤ 21 := by
        have := congrArg List.length hmxp
        rw [List.length_map, List.length_map] at this
        have := hL.len
        omega
      have hpl' : ∀ x ∈ reqMs z (msAt z (ms0 lf) qs i) q, x.1 ∈ pathsL := fun x hx => by
        have : x.1 ∈ (reqMs z (msAt z (ms0 lf) qs i) q).map (·.1) := List.mem_map_of_mem hx
        rw [reqMs_paths] at this
        obtain ⟨w, hw, e⟩ := List.mem_map.mp this
        rw [← e]
        exact hM.paths w hw
      have hMv := Sat.machs (Sat.al.mp (S7.pull 1 rfl))
      have hlpq : H5 lp = some (.lst (((l1 ++ y' :: l2).map (·.path)).map V.str)) := by rw [hmxp]; exact S7.get 7 rfl
      generalize hmsn : reqMs z (msAt z (ms0 lf) qs i) q = msn at hms' hpl'
      refine q_asgL (xs := (heldL msn).map V.str) ?_ fun hp H6 hhp e6 h6 => ?_
      · have e : (heldL msn).map V.str = given ("abcdefgh" : Str).cps.size (fun i => !decide (holdersF msn (pagesL.getD i "") = [])) (fun i => .str (pagesL.getD i "")) := by
          unfold given heldL
          rw [abc_size]
          have e := range_map_get pagesL "" (fun t => t)
          rw [List.map_id'] at e
          conv => lhs; rw [← e]
          rw [List.filter_map, List.map_map]
          rfl
        rw [e]
        refine el_lcW _ _ (wi_str ev_c) walk_str (by rw [abc_size]; decide) (fun _ _ => trivial) fun j H6 x H7 hj e6 y2 R2 hR => ?_
        obtain ⟨rfl, c, hc, rfl⟩ := y2
        have hj8 : j < 8 := by rw [abc_size] at hj; exact hj
        have hpg := abc_ix j hj8 c hc
        have hg : pagesL.getD j "" = (⟨#[c]⟩ : Str) := by rw [List.getD, hpg]; rfl
        rw [hg] at hR
        refine hR _ _ (Ex.refl _) rfl (et_test (ev_neLL (xs := holdersF msn ⟨#[c]⟩) (ys := []) ?_ (el_lst ea_nil (Nat.zero_le _)) (holders_okP hpl' _) (fun x hx => nomatch hx))) fun _ => ev_var rfl
        rw [← hms']
        exact el_holders (R := []) (z := z) (ev_var rfl) (sq_of (e6 _ _ hlpq)) (e6 _ _ (S7.get 0 rfl)) (fun y hy => let ⟨w, hw⟩ := hMv y hy; ⟨w, hw.ex e6⟩) hnd' (by omega) (fun _ => rfl) (fun _ => rfl) (fun _ => rfl) fun _ => rfl
      -- the set, what goes
      have S8 := S7.grow hhp e6 h6
      have hqok := hqok
      have hth8 : H6 thi = some (.lst ((thAt qs outs i).map V.str)) := S8.get 5 rfl
      obtain ⟨th1, hT1⟩ : ∃ x, x = thereF1 (thAt qs outs i) q.page := ⟨_, rfl⟩
      have hnd1 : th1.Nodup := by rw [hT1]; exact thereF1_nd hLI.nd
      have hpg1 : ∀ p ∈ th1, p ∈ pagesL := by rw [hT1]; exact thereF1_pg hLI.pg hqok.page
      have hth1l : th1.length ≤ 8 := nodup_len (l' := pagesL) hnd1 hpg1
      refine q_parLL (xs := th1.map V.str) (ys := ([] : List Str).map V.str) ?_ (el_lst ea_nil (Nat.zero_le _)) fun th2 H7 hth2 e7 h7 ou H8 hou e8 h8 => ?_
      · have hc := thereF1_cat (thAt qs outs i) q.page
        rw [← hT1] at hc
        rw [← hc]
        refine el_catV (ev_var rfl) hth8 (el_rep (el_lst (ea_cons (ev_var rfl) ea_nil) (by show 1 ≤ 100000; decide)) (ev_int1 (ev_is (ev_op (ev_var rfl) (ev_var rfl) (rv_niL (K := K) (sq_of hth8) rfl (flatS _))) (by rw [inS]))) (by split <;> decide) (by show 1 ≤ 1000; decide)) ?_
        have := congrArg List.length hc
        rw [List.length_append, List.length_map (as := th1)] at this
        omega
      have S9 := (S8.grow hth2 e7 h7).grow hou e8 h8
      have h68 : H8 hp = some (.lst ((heldL msn).map V.str)) := e8 _ _ (e7 _ _ h6)
      refine q_asgL (xs := (th1.filter fun p => !decide (p ∈ heldL msn)).map V.str) (el_filt (K := K) (f := fun p => !decide (p ∈ heldL msn)) (ev_var rfl) (e8 _ _ h7) (by omega) (fun _ => rfl) (fun _ => rfl) fun x hx H9 e9 => et_is (et_test (ev_op (ev_var rfl) (ev_var rfl) (rv_niL (K := K) (sq_of (e9 _ _ h68)) rfl (flatS _)))) (by rw [inS])) fun fr H9 hfr e9 h9 => ?_
      have S10 := S9.grow hfr e9 h9
      have t69 : Tu H6 H9 := Ex.tu ((e7.trans e8).trans e9)
      obtain ⟨RST, hRST⟩ : ∃ r, r = (pt hp (.lst ((heldL msn).map V.str)) :: pt d (.dK (mdK (l1 ++ y' :: l2))) :: al (machPs K z (l1 ++ y' :: l2)) :: pt fo (.lst os) :: pt thi (.lst ((thAt qs outs i).map V.str)) :: TraceP K tr qs :: pt lp (.lst ((lf.map fun x : Str × (Str × Int × Nat) => x.1).map V.str)) :: pt rp (.lst x6.xs) :: R : List HP) := ⟨_, rfl⟩
      have S11 : Sat H9 (PoolP p :: SetupP K s' frames z ts :: pt fr (.lst ((th1.filter fun p => !decide (p ∈ heldL msn)).map V.str)) :: pt ou (.lst (([] : List Str).map V.str)) :: pt th2 (.lst (th1.map V.str)) :: RST) := by
        rw [hRST]
        exact (S10.pull 6 rfl).pull 9 rfl
      have hmok : ∀ x ∈ msn, MOk z x.2 := by
        have := (hLI.msin.req hz hqok (by have := (List.getElem?_eq_some_iff.mp hq).1; have := hQ.len; omega) (hat q hq)).ok.ok
        rw [hmsn] at this
        exact this
      have hshn : shares msn ≤ frames := by
        rw [← hmsn, shares_req]
        exact hLI.share
      clear S10 S9 S8 S7
      refine q_whileM (fun σ' H' => ∃ (ol : List Str) (a8 a17 : Option V), σ' = [some (.ref p), some (.ref s'), some (.ref tr), some (.ref lp), some (.ref d), some (.ref th2), some (.ref fo), some (.str q.path), a8, a9, a10, some (.int q.at_), some (.str q.kind), some (.str q.page), some (.ref hp), some (.ref ou), some (.ref fr), a17, a18] ∧ Tu H9 H' ∧ OutOk z frames msn th1 ol ∧ Sat H' (PoolP p :: SetupP K s' frames z ts :: pt ou (.lst (ol.map V.str)) :: pt th2 (.lst ((th1.filter fun p => decide (p ∉ ol)).map V.str)) :: RST))
        (fun m σ' H' => ∃ (fl ol : List Str) (a8 a17 : Option V), m = fl.length ∧ σ' = [some (.ref p), some (.ref s'), some (.ref tr), some (.ref lp), some (.ref d), some (.ref th2), some (.ref fo), some (.str q.path), a8, a9, a10, some (.int q.at_), some (.str q.kind), some (.str q.page), some (.ref hp), some (.ref ou), some (.ref fr), a17, a18] ∧ Tu H9 H' ∧ ol.Nodup ∧ (∀ x ∈ ol, x ∈ th1 ∧ ¬ pgHeld msn x) ∧ fl.Nodup ∧ (∀ x, x ∈ fl ↔ x ∈ th1 ∧ x ∉ ol ∧ ¬ pgHeld msn x) ∧ Sat H' (PoolP p :: SetupP K s' frames z ts :: pt fr (.lst (fl.map V.str)) :: pt ou (.lst (ol.map V.str)) :: pt th2 (.lst ((th1.filter fun p => decide (p ∉ ol)).map V.str)) :: RST))
        (th1.filter fun p => !decide (p ∈ heldL msn)).length ⟨_, [], _, _, rfl, rfl, Tu.refl _, .nil, (fun x h => nomatch h), hnd1.sublist List.filter_sublist, fun x => ?_, ?_⟩ ?_ ?_
      · rw [List.mem_filter]
        constructor
        · rintro ⟨a, b⟩
          have b : x ∉ heldL msn := by simpa using b
          exact ⟨a, (fun h => nomatch h), fun h => b (inHeld.mpr ⟨hpg1 x a, h⟩)⟩
        · rintro ⟨a, _, b⟩
          refine ⟨a, ?_⟩
          have : x ∉ heldL msn := fun h => b (inHeld.mp h).2
          simp [this]
      · have e0 : (th1.filter fun p => decide (p ∉ ([] : List Str))) = th1 := List.filter_eq_self.mpr fun p _ => by simp
        rw [e0]
        exact S11
      · rintro m σ' H10 ⟨fl, ol, a8, a17, rfl, rfl, t10, hol, hos, hfl, hfi, S12⟩
        have hfl8 : fl.length ≤ 8 := nodup_len (l' := pagesL) hfl fun x hx => hpg1 x ((hfi x).mp hx).1
        have hol8 : ol.length ≤ 8 := nodup_len (l' := pagesL) hol fun x hx => hpg1 x (hos x hx).1
        have hflok : ∀ x ∈ fl, PyData.strOk x = true := fun x hx => pagesL_ok x (hpg1 x ((hfi x).mp hx).1)
        have htn : (th1.filter fun p => decide (p ∉ ol)).Nodup := hnd1.sublist List.filter_sublist
        have htl8 : (th1.filter fun p => decide (p ∉ ol)).length ≤ 8 := Nat.le_trans (List.length_filter_le _ _) hth1l
        refine ⟨_, et_test (ev_neVL (K := K) (ev_var rfl) (S12.get 2 rfl) (ys := []) (el_lst ea_nil (Nat.zero_le _)) hflok (fun x h => nomatch h)), fun hb H11 e11 => ?_, fun hb H11 e11 => ?_⟩
        · have hne : fl ≠ [] := by simpa using hb
          have hfl0 : 0 < fl.length := List.length_pos_iff.mpr hne
          have S13 := S12.same e11
          refine ⟨_, fun _ _ h => h, fun Dk hDk => ?_⟩
          obtain ⟨sdx, su, sszs, sxs, hV⟩ := (S13.pull 1 rfl).setupV
          obtain ⟨sr, stk, slate, hsi⟩ := hV.ins
          refine q_asg (v := .bl (decide (((th1.filter fun p => decide (p ∉ ol)).map (szOf z)).sum > frames))) (ev_op (ev_sum ?_) (ev_prop (ev_var rfl) hsi fun H12 e12 Q q' => ⟨s', sdx, su, sszs, frames, z, sxs, ts, rfl, hV.ex e12, q'⟩) rv_I0) fun H12 e12 => ?_
          · have e : ((th1.filter fun p => decide (p ∉ ol)).map (szOf z)).map V.int = given ((th1.filter fun p => decide (p ∉ ol)).map V.str).length (fun _ => true) (fun i => V.int (szOf z ((th1.filter fun p => decide (p ∉ ol)).getD i ""))) := by
              rw [given_all, List.length_map, range_map_get (th1.filter fun p => decide (p ∉ ol)) "" (fun e => V.int (szOf z e)), List.map_map]
              rfl
            rw [e]
            refine el_lcW _ _ (wi_list (ev_var rfl) (sq_of (S13.get 4 rfl))) walk_list (by rw [List.length_map]; omega) (fun H9 e9 => sq_of (e9 _ _ (S13.get 4 rfl))) fun i H9 x H10 hi e9 y2 R2 hR => ?_
            obtain ⟨rfl, hxi⟩ := y2
            rw [List.getElem?_map] at hxi
            obtain ⟨nm, hnm, rfl⟩ := Option.map_eq_some_iff.mp hxi
            have hg : (th1.filter fun p => decide (p ∉ ol)).getD i "" = nm := by rw [List.getD, hnm]; rfl
            rw [hg] at hR
            exact hR _ _ (Ex.refl _) rfl et_yes fun _ => ev_meth (ev_var rfl) (e9 _ _ hsi) rfl (ea_cons (ev_var rfl) ea_nil) fun H11 e11 Q q' => ⟨s', sdx, su, sszs, frames, z, sxs, ts, nm, rfl, hV.ex (e9.trans e11), q'⟩
          have S14 := S13.same e12
          have t14 : Tu H9 H12 := (t10.trans (Ex.tu e11)).trans (Ex.tu e12)
          clear S13 S12
          refine q_ifRaw (fun σ' H' => σ' = [some (.ref p), some (.ref s'), some (.ref tr), some (.ref lp), some (.ref d), some (.ref th2), some (.ref fo), some (.str q.path), a8, a9, a10, some (.int q.at_), some (.str q.kind), some (.str q.page), some (.ref hp), some (.ref ou), some (.ref fr), some (.bl (decide (((th1.filter fun p => decide (p ∉ ol)).map (szOf z)).sum > frames))), a18] ∧ Tu H9 H' ∧ Sat H' (PoolP p :: SetupP K s' frames z ts :: pt fr (.lst (fl.map V.str)) :: pt ou (.lst (ol.map V.str)) :: pt th2 (.lst ((th1.filter fun p => decide (p ∉ ol)).map V.str)) :: RST)) ?_ ?_
          · intro nx hnx
            by_cases hfull : ((th1.filter fun p => decide (p ∉ ol)).map (szOf z)).sum > frames
            · exact t_andF (et_is (et_not (et_B (ev_var rfl))) (by rw [decide_eq_true hfull]; rfl)) fun H13 e13 => of_ifF (hnx _ _ ⟨rfl, t14.trans (Ex.tu e13), S14.same e13⟩)
            · refine t_andT (et_is (et_not (et_B (ev_var rfl))) (by rw [decide_eq_false hfull]; rfl)) fun H13 e13 => t_test (t_op (t_draw (size := 4) (S14.same e13) rfl ev_c (by decide) (by decide) fun i4 H14 i40 i44 S15 t15 => ⟨i4, 0, rfl, rfl, _, rfl, ?_⟩))
              have t16 : Tu H9 H14 := (t14.trans (Ex.tu e13)).trans t15
              by_cases h4 : i4 > 0
              · rw [decide_eq_true h4]
                refine of_ifT (hDk _ _ ⟨ol, _, _, rfl, t16, ⟨hol, fun x hx => (hos x hx).1, fun x hx => (hos x hx).2, by omega⟩, S15.sub (((List.sublist_cons_self _ _).cons_cons _).cons_cons _)⟩)
              · rw [decide_eq_false h4]
                exact of_ifF (hnx _ _ ⟨rfl, t16, S15⟩)
          · rintro σ'' H13 ⟨rfl, t13, S15⟩
            refine q_asgD ⟨_, rfl, .inl ⟨rfl, _, sq_of (S15.get 2 rfl)⟩, t_cons (t_draw (size := (fl.length : Int)) S15 rfl (ev_is (ev_len (K := K) (ev_var rfl) (sq_of (S15.get 2 rfl))) (by rw [List.length_map])) (by omega) (by omega) fun i5 H14 i50 i51 S16 t16 => ?_)⟩
            obtain ⟨n, rfl⟩ : ∃ n : Nat, i5 = (n : Int) := ⟨i5.toNat, by omega⟩
            have hn : n < fl.length := by omega
            obtain ⟨nm, hnm⟩ : ∃ nm, fl[n]? = some nm := ⟨_, List.getElem?_eq_getElem hn⟩
            obtain ⟨hnmt, hnmo, hnmh⟩ := (hfi nm).mp (List.mem_of_getElem? hnm)
            obtain ⟨hE1, hE2⟩ := erase_mem hfl hnm
            refine ⟨fr, fl.map V.str, (n : Int), n, .str nm, rfl, rfl, S16.get 2 rfl, by omega, by omega, ?_, by rw [List.getElem?_map, hnm]; rfl, ?_⟩
            · rw [List.length_map]
              exact PySem.StrLaws.seqIndex_nonneg (by omega) (by omega)
            have hei : (fl.map V.str).eraseIdx n = (fl.eraseIdx n).map V.str := eraseIdx_map' _ _ _
            rw [hei]
            have S17 : Sat (upd H14 fr (.lst ((fl.eraseIdx n).map V.str))) (PoolP p :: SetupP K s' frames z ts :: pt fr (.lst ((fl.eraseIdx n).map V.str)) :: pt ou (.lst (ol.map V.str)) :: pt th2 (.lst ((th1.filter fun p => decide (p ∉ ol)).map V.str)) :: RST) := S16.put 2 rfl
            have t17 : Tu H9 (upd H14 fr (.lst ((fl.eraseIdx n).map V.str))) := (t13.trans t16).trans (Tu.upd (S16.get 2 rfl))
            generalize upd H14 fr (.lst ((fl.eraseIdx n).map V.str)) = H15 at S17 t17 ⊢
            have hin : nm ∈ th1.filter fun p => decide (p ∉ ol) := List.mem_filter.mpr ⟨hnmt, decide_eq_true hnmo⟩
            refine ⟨_, rfl, .inl ⟨rfl, _, sq_of (S17.get 4 rfl)⟩, _, rfl, th2, _, nm, rfl, rfl, S17.get 4 rfl, hin, ?_⟩
            rw [htn.erase_eq_filter, ← filter_snoc]
            have S18 : Sat (upd H15 th2 (.lst ((th1.filter fun p => decide (p ∉ ol ++ [nm])).map V.str))) (PoolP p :: SetupP K s' frames z ts :: pt fr (.lst ((fl.eraseIdx n).map V.str)) :: pt ou (.lst (ol.map V.str)) :: pt th2 (.lst ((th1.filter fun p => decide (p ∉ ol ++ [nm])).map V.str)) :: RST) := S17.put 4 rfl
            have t18 : Tu H9 (upd H15 th2 (.lst ((th1.filter fun p => decide (p ∉ ol ++ [nm])).map V.str))) := t17.trans (Tu.upd (S17.get 4 rfl))
            generalize upd H15 th2 (.lst ((th1.filter fun p => decide (p ∉ ol ++ [nm])).map V.str)) = H16 at S18 t18 ⊢
            refine s_app (S18.get 3 rfl) (ev_var rfl) (ev_var rfl) (by rw [List.length_map]; omega) fun H17 e17 => ⟨(fl.eraseIdx n).length, by rw [List.length_eraseIdx_of_lt hn]; omega, fl.eraseIdx n, ol ++ [nm], _, _, rfl, rfl, (t18.trans (Ex.tu e17)).trans (Tu.upd ((S18.same e17).get 3 rfl)), ?_, ?_, hE1, fun x => ?_, ?_⟩
            · rw [List.nodup_append]
              exact ⟨hol, by simp, fun a ha b hb => by rw [List.mem_singleton.mp hb]; rintro rfl; exact hnmo ha⟩
            · intro x hx
              rcases List.mem_append.mp hx with a | a
              · exact hos x a
              · rw [List.mem_singleton.mp a]; exact ⟨hnmt, hnmh⟩
            · rw [hE2, hfi]
              constructor
              · rintro ⟨⟨a, b, c⟩, e⟩
                exact ⟨a, (fun h => (List.mem_append.mp h).elim b fun h => e (List.mem_singleton.mp h)), c⟩
              · rintro ⟨a, b, c⟩
                exact ⟨⟨a, fun h => b (List.mem_append.mpr (.inl h)), c⟩, fun h => b (List.mem_append.mpr (.inr (List.mem_singleton.mpr h)))⟩
            · rw [← map_snoc]
              exact (S18.same e17).put 3 rfl
        · have hnil : fl = [] := by simpa using hb
          have hall : ∀ x ∈ th1.filter fun p => decide (p ∉ ol), pgHeld msn x := fun x hx => by
            obtain ⟨a, b⟩ := List.mem_filter.mp hx
            have b := of_decide_eq_true b
            by_cases hh : pgHeld msn x
            · exact hh
            · have := (hfi x).mpr ⟨a, b, hh⟩
              rw [hnil] at this
              exact nomatch this
          have hfit := held_fit hz msn _ hmok htn hall
          exact ⟨ol, _, _, rfl, t10.trans (Ex.tu e11), ⟨hol, fun x hx => (hos x hx).1, fun x hx => (hos x hx).2, by omega⟩, (S12.same e11).sub (((List.sublist_cons_self _ _).cons_cons _).cons_cons _)⟩
      -- told
      rintro σ' H10 ⟨ol, a8, a17, rfl, t10, hOO, S12⟩
      subst hRST
      refine s_appW (S12.get 7 rfl) (ev_var rfl) (ew_tupleV (K := K) (ev_var rfl) (S12.get 2 rfl)) (by have := hOu.len; have := hLI.oin.len; have := (List.getElem?_eq_some_iff.mp hq).1; have := hQ.len; omega) fun u H11 e11 hu => ?_
      have S13 := (S12.same e11).put (o' := .lst (os ++ [.ref u])) 7 rfl
      have t11 : Tu H10 (upd H11 fo (.lst (os ++ [.ref u]))) := (Ex.tu e11).trans (Tu.upd ((S12.same e11).get 7 rfl))
      have hu2 : (upd H11 fo (.lst (os ++ [.ref u]))) u = some (.tup (ol.map V.str)) := Tu.upd ((S12.same e11).get 7 rfl) (fun z => z) _ _ hu
      generalize upd H11 fo (.lst (os ++ [.ref u])) = H12 at S13 t11 hu2 ⊢
      have t12 : Tu H4 H12 := ((((t5.trans (Ex.tu e6)).trans t69).trans t10).trans t11)
      have hOO2 : OutOk z frames (reqMs z (msAt z (ms0 lf) qs i) q) (thereF1 (thAt qs outs i) q.page) ol := by rw [hmsn, ← hT1]; exact hOO
      have hLI2 := hLI.next hz hQ hq (hat q hq) hqp1 hOO2
      have hol : (outs ++ [ol])[i]? = some ol := by rw [← hLI.oin.len, List.getElem?_append_right (Nat.le_refl _), Nat.sub_self]; rfl
      have hth : thAt qs (outs ++ [ol]) (i + 1) = th1.filter fun p => decide (p ∉ ol) := by
        rw [thAt_succ hq hol, thAt_app (by rw [hLI.oin.len]; exact Nat.le_refl _), hT1]
        rfl
      refine ⟨th2, _, _, _, _, _, _, _, _, _, _, _, _, rfl, p1.trans t12, S13.get 11 rfl, l1 ++ y' :: l2, os ++ [.ref u], outs ++ [ol], q.at_, ?_, hLI2, ?_, (hOu.tu t12).snoc hu2, ?_⟩
      · rw [hms', ← hmsn, msAt_succ hq]
      · intro q2 hq2
        obtain ⟨h1, h1'⟩ := List.getElem?_eq_some_iff.mp hq
        obtain ⟨h2, h2'⟩ := List.getElem?_eq_some_iff.mp hq2
        have := (List.pairwise_iff_getElem.mp hQ.sorted) i (i + 1) h1 h2 (by omega)
        rw [h1', h2'] at this
        exact this
      · rw [hth]
        have S14 : Sat H12 (PoolP p :: SetupP K s' frames z ts :: pt th2 (.lst ((th1.filter fun p => decide (p ∉ ol)).map V.str)) :: pt d (.dK (mdK (l1 ++ y' :: l2))) :: al (machPs K z (l1 ++ y' :: l2)) :: pt fo (.lst (os ++ [.ref u])) :: TraceP K tr qs :: pt lp (.lst ((lf.map fun x : Str × (Str × Int × Nat) => x.1).map V.str)) :: pt rp (.lst x6.xs) :: R) :=
          S13.sub ((((((((List.sublist_cons_self _ _).cons_cons _).cons_cons _).cons_cons _).cons _).cons_cons _).cons _).cons_cons _ |>.cons_cons _)
        exact ((((S14.pull 2 rfl).pull 5 rfl).pull 3 rfl).pull 5 rfl).pull 5 rfl
    · rintro rp σ' H4 ⟨thi, a7, a8, a9, a10, a11, a12, a13, a14, a15, a16, a17, a18, rfl, t4, _, mx2, os, outs, at_, hmx2, hLI, _, hOu, S4⟩
      have S5 : Sat H4 (pt fo (.lst os) :: PoolP p :: SetupP K s' frames z ts :: TraceP K tr qs :: pt lp (.lst ((lf.map (·.1)).map V.str)) :: R) := by
        have A := S4.sub ((((((((List.sublist_cons_self _ _).cons_cons _).cons_cons _).cons_cons _).cons _).cons_cons _).cons_cons _).cons _ |>.cons _)
        exact (A.pull 2 rfl).pull 2 rfl
      refine ⟨_, rfl, k fo outs H4 (OutsP.open_.mpr ⟨os, hOu, S5⟩) ⟨by rw [hLI.oin.len, hxl], hQ.len, fun i q o hq ho => hLI.oin.step i q o hq ho⟩ hLI.oin.pg ((t1.trans t3).trans t4)⟩
end
end N32
set_option Elab.async false
set_option linter.all false
set_option maxRecDepth 100000
set_option maxHeartbeats 4000000

namespace N32
open PySem PySem.Spec PyProof.Rows L2 Evl
/-! ### a tree's leaves -/
abbrev Lf := Str × Int × Nat
def lvT {α : Type} (f : List α → List (List Str × Lf)) (t : TnS α) : List (List Str × Lf) := match t.what with
  | .rule r => [([t.name], (t.name, t.share, r))]
  | .kids l _ => (f l).map fun x => (t.name :: x.1, x.2)
def lvS {α : Type} (f : List α → List (List Str × Lf)) (ts : List (TnS α)) : List (List Str × Lf) := ts.flatMap (lvT f)
def lvR : (n : Nat) → List (Kid n) → List (List Str × Lf)
  | 0 => fun _ => []
  | n + 1 => fun ts => lvS (lvR n) ts
def joinP : List Str → Str
  | [] => ""
  | [a] => a
  | a :: b :: r => a ++ "/" ++ joinP (b :: r)
def nmK : Nat → List Str → List (List Str)
  | 0, _ => []
  | n + 1, names => names.flatMap fun a => [a] :: (nmK n subN).map (a :: ·)
theorem nmK_ok : ∀ p ∈ nmK 3 topN, joinP p ∈ pathsL ∧ Txt.split (joinP p) "/" = p := by decide +kernel
theorem str_nil (p : Str) : ("" : Str) ++ p = p := by
  show (⟨_ ++ _⟩ : Str) = p
  rw [show ("" : Str).cps = #[] from rfl, Array.empty_append]
/-- what holds of the leaves of a tree -/
structure LvOk (L : List (List Str × Lf)) (N : List (List Str)) (F : List Str → Lf → Prop) (room : Int) (ps : List Str) : Prop where
  nd : (L.map (·.1)).Nodup
  nm : ∀ x ∈ L, x.1 ∈ N
  fnd : ∀ x ∈ L, F x.1 x.2
  bd : ∀ x ∈ L, 0 ≤ x.2.2.1 ∧ x.2.2.1 ≤ 8 ∧ x.2.2.2 < 6
  sum : (L.map (·.2.2.1)).sum ≤ room
  path : ps = L.map fun x => joinP x.1
  ne : 1 ≤ L.length
theorem nmK_ne : ∀ (n : Nat) (names : List Str), ∀ p ∈ nmK n names, p ≠ []
  | 0, _, p, h => nomatch h
  | n + 1, names, p, h => by
    obtain ⟨a, _, h⟩ := List.mem_flatMap.mp h
    rcases List.mem_cons.mp h with rfl | h
    · exact List.cons_ne_nil _ _
    · obtain ⟨q, _, rfl⟩ := List.mem_map.mp h
      exact List.cons_ne_nil _ _
theorem find_name {α : Type} : ∀ {ts : List (TnS α)} {i : Nat} {t : TnS α}, (ts.map (·.name)).Nodup → ts[i]? = some t → (List.range ts.length).find? (fun j => decide ((ts.getD j tnD).name = t.name)) = some i := by
  intro ts i t hn h
  obtain ⟨hi, ht⟩ := List.getElem?_eq_some_iff.mp h
  rw [List.find?_range_eq_some]
  refine ⟨?_, List.mem_range.mpr hi, fun j hj => ?_⟩
  · rw [List.getD, h]; exact decide_eq_true rfl
  · have hj2 : j < ts.length := by omega
    rw [List.getD, List.getElem?_eq_getElem hj2]
    have hne : (ts[j]).name ≠ t.name := fun e => by
      have := List.pairwise_iff_getElem.mp hn j i (by rw [List.length_map]; omega) (by rw [List.length_map]; omega) hj
      rw [List.getElem_map, List.getElem_map, ht] at this
      exact this e
    show (!decide ((ts[j]).name = t.name)) = true
    rw [decide_eq_false hne]
    rfl
theorem nodup_flat {α β : Type} {f : α → List β} : ∀ {l : List α}, (∀ a ∈ l, (f a).Nodup) → l.Pairwise (fun a b => ∀ x ∈ f a, x ∉ f b) → (l.flatMap f).Nodup
  | [], _, _ => .nil
  | a :: l, h, hp => by
    rw [List.pairwise_cons] at hp
    rw [List.flatMap_cons, List.nodup_append]
    refine ⟨h a List.mem_cons_self, nodup_flat (fun b hb => h b (List.mem_cons_of_mem _ hb)) hp.2, fun x hx y hy e => ?_⟩
    subst e
    obtain ⟨b, hb, hxb⟩ := List.mem_flatMap.mp hy
    exact hp.1 b hb x hx hxb
theorem lvT_head {α : Type} {f : List α → List (List Str × Lf)} {t : TnS α} {x : List Str} (h : x ∈ (lvT f t).map (·.1)) : ∃ r, x = t.name :: r := by
  unfold lvT at h
  cases hw : t.what with
  | rule r =>
    rw [hw] at h
    exact ⟨[], by simpa using h⟩
  | kids l r =>
    rw [hw] at h
    obtain ⟨y, hy, rfl⟩ := List.mem_map.mp h
    obtain ⟨w, _, rfl⟩ := List.mem_map.mp hy
    exact ⟨w.1, rfl⟩
theorem sum_flat {α β : Type} {f : α → List β} {g : β → Int} {s : α → Int} : ∀ {l : List α}, (∀ a ∈ l, ((f a).map g).sum ≤ s a) → ((l.flatMap f).map g).sum ≤ (l.map s).sum
  | [], _ => by simp
  | a :: l, h => by
    have ih := sum_flat (l := l) fun b hb => h b (List.mem_cons_of_mem _ hb)
    have ha := h a List.mem_cons_self
    rw [List.flatMap_cons, List.map_append, List.sum_append, List.map_cons, List.sum_cons]
    omega
theorem lv_step {n : Nat} (ih : ∀ (names : List Str) (room : Int) (l : List (Kid n)), TreeOk n names room l → names.Nodup → (∀ x ∈ names, x ∈ namesL) → LvOk (lvR n l) (nmK n names) (FindT n l) room (pathsR n l))
    {names : List Str} {room : Int} {ts : List (TnS (Kid n))} (h : TreeS (TreeOk n) names room ts) (hnd : names.Nodup) (hin : ∀ x ∈ names, x ∈ namesL) : LvOk (lvS (lvR n) ts) (nmK (n + 1) names) (FindS (FindT n) ts) room (pathsS (pathsR n) ts) := by
    obtain ⟨hnn, hnl⟩ := h.names hnd hin
    have hsub : ∀ l r share, TreeW (TreeOk n) share (.kids l r) → LvOk (lvR n l) (nmK n subN) (FindT n l) share (pathsR n l) := fun l r share hw => ih subN share l hw.2 (by decide) subN_in
    have hname : ∀ t ∈ ts, t.name ∈ names := fun t ht => by
      obtain ⟨k, hk⟩ := h.pre
      have : t.name ∈ ts.map (·.name) := List.mem_map_of_mem ht
      rw [hk] at this
      exact List.mem_of_mem_take this
    have hT : ∀ t ∈ ts, ((lvT (lvR n) t).map (·.1)).Nodup ∧ (∀ x ∈ lvT (lvR n) t, x.1 ∈ nmK (n + 1) names) ∧ (∀ x ∈ lvT (lvR n) t, 0 ≤ x.2.2.1 ∧ x.2.2.1 ≤ 8 ∧ x.2.2.2 < 6) ∧ ((lvT (lvR n) t).map (·.2.2.1)).sum ≤ t.share ∧ pathsT (pathsR n) t = (lvT (lvR n) t).map (fun x => joinP x.1) ∧ 1 ≤ (lvT (lvR n) t).length ∧ ∀ x ∈ lvT (lvR n) t, ∃ rest, x.1 = t.name :: rest ∧ FindW (FindT n) t rest x.2 t.what := by
      intro t ht
      have hnm := hname t ht
      obtain ⟨s0, s8, hw⟩ := h.ten t ht
      unfold lvT pathsT
      cases e : t.what with
      | rule r =>
        rw [e] at hw
        dsimp only
        refine ⟨by simp, fun x hx => ?_, fun x hx => ?_, ?_, rfl, Nat.le_refl _, fun x hx => ?_⟩
        · rw [List.mem_singleton.mp hx]
          exact List.mem_flatMap.mpr ⟨t.name, hnm, List.mem_cons_self⟩
        · rw [List.mem_singleton.mp hx]
          exact ⟨s0, s8, hw⟩
        · show t.share + 0 ≤ t.share
          omega
        · rw [List.mem_singleton.mp hx]
          exact ⟨[], rfl, rfl, rfl⟩
      | kids l r =>
        rw [e] at hw
        dsimp only
        have L := hsub l r t.share hw
        refine ⟨?_, fun x hx => ?_, fun x hx => ?_, ?_, ?_, ?_, fun x hx => ?_⟩
        · rw [List.map_map]
          have : ((lvR n l).map (·.1)).map (t.name :: ·) = (lvR n l).map ((fun x : List Str × Lf => x.1) ∘ fun x => (t.name :: x.1, x.2)) := by rw [List.map_map]; rfl
          rw [← this]
          exact List.Pairwise.map (t.name :: ·) (fun a b (hab : a ≠ b) hc => hab (List.cons.inj hc).2) L.nd
        · obtain ⟨y, hy, rfl⟩ := List.mem_map.mp hx
          exact List.mem_flatMap.mpr ⟨t.name, hnm, List.mem_cons_of_mem _ (List.mem_map_of_mem (L.nm y hy))⟩
        · obtain ⟨y, hy, rfl⟩ := List.mem_map.mp hx
          exact L.bd y hy
        · have := L.sum
          rw [List.map_map]
          exact this
        · rw [L.path, List.map_map, List.map_map]
          apply List.map_congr_left
          intro y hy
          have hne := nmK_ne n subN y.1 (L.nm y hy)
          show t.name ++ "/" ++ joinP y.1 = joinP (t.name :: y.1)
          cases hy1 : y.1 with
          | nil => exact (hne hy1).elim
          | cons b r => rfl
        · rw [List.length_map]
          exact L.ne
        · obtain ⟨y, hy, rfl⟩ := List.mem_map.mp hx
          exact ⟨y.1, rfl, L.fnd y hy⟩
    refine ⟨?_, fun x hx => ?_, fun x hx => ?_, fun x hx => ?_, ?_, ?_, ?_⟩
    · show ((ts.flatMap (lvT (lvR n))).map (·.1)).Nodup
      rw [List.map_flatMap]
      refine nodup_flat (fun t ht => (hT t ht).1) ?_
      refine (List.pairwise_map.mp hnn).imp fun hab x hx hx2 => ?_
      obtain ⟨r1, e1⟩ := lvT_head hx
      obtain ⟨r2, e2⟩ := lvT_head hx2
      rw [e1] at e2
      exact hab (List.cons.inj e2).1
    · obtain ⟨t, ht, hx⟩ := List.mem_flatMap.mp (show x ∈ ts.flatMap (lvT (lvR n)) from hx)
      exact (hT t ht).2.1 x hx
    · obtain ⟨t, ht, hx⟩ := List.mem_flatMap.mp (show x ∈ ts.flatMap (lvT (lvR n)) from hx)
      obtain ⟨rest, e1, e2⟩ := (hT t ht).2.2.2.2.2.2 x hx
      obtain ⟨i, hi⟩ := List.mem_iff_getElem?.mp ht
      rw [e1]
      exact ⟨i, t, find_name hnn hi, hi, e2⟩
    · obtain ⟨t, ht, hx⟩ := List.mem_flatMap.mp (show x ∈ ts.flatMap (lvT (lvR n)) from hx)
      exact (hT t ht).2.2.1 x hx
    · have := h.sum
      have h2 : ((ts.flatMap (lvT (lvR n))).map (·.2.2.1)).sum ≤ (ts.map (·.share)).sum := sum_flat fun t ht => (hT t ht).2.2.2.1
      exact Int.le_trans h2 this
    · show ts.flatMap (pathsT (pathsR n)) = (ts.flatMap (lvT (lvR n))).map fun x => joinP x.1
      rw [List.map_flatMap]
      have : ∀ l : List (TnS (Kid n)), (∀ t ∈ l, t ∈ ts) → l.flatMap (pathsT (pathsR n)) = l.flatMap fun t => (lvT (lvR n) t).map fun x => joinP x.1 := by
        intro l
        induction l with
        | nil => intro _; rfl
        | cons a l ih =>
          intro hl
          rw [List.flatMap_cons, List.flatMap_cons, ih fun t ht => hl t (List.mem_cons_of_mem _ ht), (hT a (hl a List.mem_cons_self)).2.2.2.2.1]
      exact this ts fun t ht => ht
    · have h1 := h.ne
      cases ts with
      | nil => simp at h1
      | cons t ts' =>
        show 1 ≤ (List.flatMap (lvT (lvR n)) (t :: ts')).length
        rw [List.flatMap_cons, List.length_append]
        have := (hT t List.mem_cons_self).2.2.2.2.2.1
        omega
theorem lv_ok : ∀ (n : Nat) (names : List Str) (room : Int) (ts : List (Kid n)), TreeOk n names room ts → names.Nodup → (∀ x ∈ names, x ∈ namesL) → LvOk (lvR n ts) (nmK n names) (FindT n ts) room (pathsR n ts)
  | 0, _, _, _, h, _, _ => h.elim
  | n + 1, names, room, ts, h, hnd, hin => lv_step (lv_ok n) h hnd hin
def lfOf (ts : List (TnS (Kid 2))) : List (Str × Lf) := (lvR 3 ts).map fun x => (joinP x.1, x.2)
theorem lf_ok {room : Int} {ts : List (TnS (Kid 2))} (h : TreeS (TreeOk 2) topN room ts) : LfOk ts (lfOf ts) ∧ pathsS (pathsR 2) ts = (lfOf ts).map (·.1) ∧ shares (ms0 (lfOf ts)) ≤ room ∧ 1 ≤ (lfOf ts).length := by
  have L := lv_ok 3 topN room ts h (by decide) topN_in
  have hp : pathsS (pathsR 2) ts = (lfOf ts).map (·.1) := by
    have := L.path
    unfold lfOf
    rw [List.map_map]
    exact this
  refine ⟨⟨?_, ?_, fun x hx => ?_⟩, hp, ?_, ?_⟩
  · rw [leavesS_paths (fun l above => leavesK_paths 2 l above), ← hp]
    have : (fun p => ("" : Str) ++ p) = id := funext fun p => str_nil p
    rw [this, List.map_id]
  · unfold lfOf
    rw [List.map_map]
    have e : (lvR 3 ts).map ((fun x : Str × Lf => x.1) ∘ fun x : List Str × Lf => (joinP x.1, x.2)) = ((lvR 3 ts).map (·.1)).map joinP := by rw [List.map_map]; rfl
    rw [e]
    have inj : ∀ l : List (List Str), (∀ p ∈ l, p ∈ nmK 3 topN) → l.Nodup → (l.map joinP).Nodup := by
      intro l
      induction l with
      | nil => intro _ _; exact .nil
      | cons a l ih =>
        intro hl hn
        rw [List.nodup_cons] at hn
        rw [List.map_cons, List.nodup_cons]
        refine ⟨fun hm => ?_, ih (fun p hp => hl p (List.mem_cons_of_mem _ hp)) hn.2⟩
        obtain ⟨b, hb, e⟩ := List.mem_map.mp hm
        have h1 := (nmK_ok a (hl a List.mem_cons_self)).2
        have h2 := (nmK_ok b (hl b (List.mem_cons_of_mem _ hb))).2
        rw [e, h1] at h2
        exact hn.1 (h2 ▸ hb)
    refine inj _ (fun p hp => ?_) L.nd
    obtain ⟨x, hx, rfl⟩ := List.mem_map.mp hp
    exact L.nm x hx
  · obtain ⟨y, hy, rfl⟩ := List.mem_map.mp hx
    obtain ⟨h1, h2⟩ := nmK_ok y.1 (L.nm y hy)
    obtain ⟨b1, b2, b3⟩ := L.bd y hy
    refine ⟨h1, ?_, b1, b2, b3⟩
    show FindS (FindT 2) ts (Txt.split (joinP y.1) "/") y.2
    rw [h2]
    exact L.fnd y hy
  · have := L.sum
    unfold shares ms0 lfOf
    rw [List.map_map, List.map_map]
    exact this
  · unfold lfOf
    rw [List.length_map]
    exact L.ne
/-! ### the script's list, as cells -/
theorem sq_cells {K : PySem.W.Frag} {H : Hp} {a : Addr} {xs : List V} (h : SqL K H a xs) : ∃ R, Sat H R ∧ ∀ H', Sat H' R → SqL K H' a xs := by
  rcases h with (h | ⟨o, h⟩) | h
  · refine ⟨[pt a (.lst xs)], ⟨fun b => b = a, fun b => b = a, fun _ => False, ⟨h, fun z => z, fun _ => Iff.rfl⟩, fun _ z => z, fun _ _ z => z, fun _ => (or_false _).symm ▸ Iff.rfl⟩, fun H' S => .inl (.inl (S.get 0 rfl))⟩
  · refine ⟨[pt a (.frz o (.lst xs))], ⟨fun b => b = a, fun b => b = a, fun _ => False, ⟨h, fun z => z, fun _ => Iff.rfl⟩, fun _ z => z, fun _ _ z => z, fun _ => (or_false _).symm ▸ Iff.rfl⟩, fun H' S => .inl (.inr ⟨o, S.get 0 rfl⟩)⟩
  · exact ⟨[], Sat.nil, fun H' _ => .inr h⟩
theorem RunOk.held {z : Szs} {frames : Int} {lf : List (Str × Lf)} {qs : List Req} {outs : List (List Str)} (h : RunOk z frames lf qs outs) (hz : SzOk z) : ∀ i, i ≤ qs.length → ∀ p, pgHeld (msAt z (ms0 lf) qs i) p → p ∈ thAt qs outs i
  | 0, _, p, hp => by
    obtain ⟨x, hx, hpx⟩ := hp
    obtain ⟨y, _, rfl⟩ := List.mem_map.mp (show x ∈ ms0 lf from hx)
    exact nomatch hpx
  | i + 1, hi, p, hp => by
    have hq : qs[i]? = some qs[i] := List.getElem?_eq_getElem (by omega)
    have ho : outs[i]? = some (outs[i]'(by rw [h.len]; omega)) := List.getElem?_eq_getElem _
    have S := h.step i _ _ hq ho
    rw [msAt_succ hq] at hp
    rw [thAt_succ hq ho]
    exact held_there S.mok (h.held hz i (by omega)) S.out.free p hp


end N32
set_option Elab.async false
set_option linter.all false
set_option maxRecDepth 100000
set_option maxHeartbeats 4000000

namespace N32
open PySem PySem.Spec PyProof.Rows L2 Evl
/-- the word of a paper, and what is behind it -/
structure WordV (H : Hp) (v wv sec : V) (ms : Ms) (there : List Str) (n : Int) (path page : Str) : Prop where
  non : v = .non → wv = .non
  tup : v ≠ .non → ∃ t, v = .ref t ∧ H t = some (.tup [wv, sec])
  c1 : decide (wv = .non) = !decide (page ∈ there)
  c2 : decide (wv = .str "alone") = decide (path ∈ holdersF ms page)
  c3 : wv = .str "others" → ∃ u, sec = .ref u ∧ H u = some (.tup ((holdersF ms page).map V.str)) ∧ holdersF ms page ≠ []
  c4 : wv = .str "extra" → ∃ k, sec = .int k ∧ holdersF ms page = [] ∧ 1 ≤ k ∧ k ≤ n
  sc : wv = .non ∨ ∃ z, wv = .str z
theorem mem_holders {ms : Ms} {path page : Str} : path ∈ holdersF ms page ↔ heldAt ms path page := by
  unfold holdersF heldAt
  constructor
  · intro h
    obtain ⟨x, hx, e⟩ := List.mem_map.mp h
    obtain ⟨a, b⟩ := List.mem_filter.mp hx
    exact ⟨x, a, e, of_decide_eq_true b⟩
  · rintro ⟨x, a, e, b⟩
    exact List.mem_map.mpr ⟨x, List.mem_filter.mpr ⟨a, decide_eq_true b⟩, e⟩
theorem PaperV.word {H : Hp} {v : V} {ms : Ms} {there : List Str} {n : Int} {path page : Str} (h : PaperV H v ms there n path page) (hin : heldAt ms path page → page ∈ there) : ∃ wv sec, WordV H v wv sec ms there n path page := by
  cases h with
  | @alone t w h e ht =>
    subst e
    exact ⟨.str "alone", w, ⟨(fun z => nomatch z), fun _ => ⟨t, rfl, ht⟩, by rw [decide_eq_true (hin h)]; rfl, by rw [decide_eq_true (mem_holders.mpr h)]; rfl, fun z => (by cases z), fun z => (by cases z), .inr ⟨_, rfl⟩⟩⟩
  | none h hn e =>
    subst e
    exact ⟨.non, .non, ⟨fun _ => rfl, fun z => (z rfl).elim, by rw [decide_eq_false hn]; rfl, by rw [decide_eq_false (fun z => h (mem_holders.mp z))]; rfl, (fun z => nomatch z), (fun z => nomatch z), .inl rfl⟩⟩
  | @others t u h hn hh e ht hu =>
    subst e
    exact ⟨.str "others", .ref u, ⟨(fun z => nomatch z), fun _ => ⟨t, rfl, ht⟩, by rw [decide_eq_true hn]; rfl, by rw [decide_eq_false (fun z => h (mem_holders.mp z))]; rfl, fun _ => ⟨u, rfl, hu, hh⟩, fun z => (by cases z), .inr ⟨_, rfl⟩⟩⟩
  | @extra t k h hn hh e ht h1 h2 =>
    subst e
    exact ⟨.str "extra", .int k, ⟨(fun z => nomatch z), fun _ => ⟨t, rfl, ht⟩, by rw [decide_eq_true hn]; rfl, by rw [decide_eq_false (fun z => h (mem_holders.mp z))]; rfl, fun z => (by cases z), fun _ => ⟨k, rfl, hh, h1, h2⟩, .inr ⟨_, rfl⟩⟩⟩
section
variable {K : PySem.W.Frag} {σ : L2.St} {H : Hp} {D : Ends} {tz tu : TS} {ta tb te tl : TE} {t : TT}
theorem rv_leT {i j : Int} (h : i ≤ j) : RV (rI0 fun i j => V.bl (decide (i ≤ j))) (.int i) (.int j) H (.bl true) := by
  have : RV (rI0 fun i j => V.bl (decide (i ≤ j))) (.int i) (.int j) H (.bl (decide (i ≤ j))) := rv_I0
  rw [decide_eq_true h] at this
  exact this
theorem ew_ev {u : Addr} {xs : List V} (h : Ev te σ H (.ref u)) (hu : H u = some (.tup xs)) : EvW te σ H xs := fun H1 e Q q => h H1 e _ fun H2 e2 => q u H2 e2 (e2 _ _ (e _ _ hu))
theorem el_filtN {xs : List Str} {f : Str → Bool} {j : Nat} {vs : List Nat} (h : EvL tl σ H (xs.map V.str)) (hn : xs.length ≤ 40000) (hw : ∀ x, wipe ((wipe σ vs).set j (some x)) vs = wipe σ vs) (hj : ∀ x, ((wipe σ vs).set j (some x))[j]? = some (some x))
    (ht : ∀ x ∈ xs, ∀ H1, Ex H H1 → EvT t ((wipe σ vs).set j (some (.str x))) H1 (f x)) : EvL (tLc (iList K tl) (gName j) t (tVar j) vs) σ H ((xs.filter f).map V.str) := fun H0 e0 Q q => h H0 e0 _ fun p H1 hp e1 h1 => by
  refine ⟨p, rfl, ⟨_, sq_of h1⟩, ?_⟩
  have e : (xs.filter f).map V.str = given (xs.map V.str).length (fun i => f (xs.getD i "")) (fun i => .str (xs.getD i "")) := by
    unfold given
    rw [List.length_map]
    have e := range_map_get xs "" (fun t => t)
    rw [List.map_id'] at e
    conv => lhs; rw [← e]
    rw [List.filter_map, List.map_map]
    rfl
  have hw2 := el_lcW (te := tVar j) (tt := t) (g := gName j) (vs := vs) (σ := σ) (H := H1) (fun i => f (xs.getD i "")) (fun i => .str (xs.getD i ""))
    (wi := fun σ H R => R (Itl K p) H) (fun H7 e7 R2 q => q H7 (Ex.refl _)) (walk_list (K := K) (a := p) (xs := xs.map V.str)) (by rw [List.length_map]; omega) (fun H7 e7 => sq_of (e7 _ _ h1)) (fun i H1 x H2 hi e2 y R2 hR => by
      obtain ⟨rfl, hxi⟩ := y
      rw [List.getElem?_map] at hxi
      obtain ⟨nm, hnm, rfl⟩ := Option.map_eq_some_iff.mp hxi
      have hg : xs.getD i "" = nm := by rw [List.getD, hnm]; rfl
      rw [hg] at hR
      exact hR _ _ (Ex.refl _) (hw _) (ht nm (List.mem_of_getElem? hnm) _ ((e0.trans e1).trans e2)) fun _ => ev_var (hj _))
  rw [← e] at hw2
  exact hw2 H1 (Ex.refl _) Q fun p2 H7 hp2 e7 h7 => q p2 H7 (fresh_back e1 hp2) (e1.trans e7) h7
end
def sp_l_law (K : PySem.W.Frag) : Sp := fun vs H Q _ => ∃ (a : Addr) (ns : List Int), vs = [.ref a] ∧ SqL K H a (ns.map V.int) ∧ ns.length ≤ 63 ∧ ∀ H', Q (.bl true) H'

/-- a def's promise beside its data -/
theorem calF_of {P : Program} {w : World} {K : PySem.W.Frag} {mg : Str → Option Value} {base : Heap} {x : Str} {st : Stmt} {f : Addr} {N ps : List Str} {k : Nat} {sp : Sp} (F : ∃ fd, FunD K x x (defArgs st) (defBody st) (defScope st) [] [] f fd) (S : FnScope N ps (defScope st))
    (b : ∀ (kV doc pm : Value) (an : Option Addr) (cdv ct : Value) (us : List Value), us.length = ps.length → bindArgs (PySem.W.fnOf x x (defArgs st) (defBody st) (defScope st) .none kV doc pm an cdv ct) ⟨us, []⟩ = pure (ps.zip us))
    (len : ∀ vs H Q E, sp vs H Q E → vs.length = ps.length)
    (hbody : ∀ (cdv : Value) (A : Around) (outer : List Env) (s : Shared) (H : Hp) (vs : List V) (Q : VK) (E : XK), Room k (A.deeper (envOfC x (defScope st) s.heap.objs.size f cdv)) → sp vs H Q E →
      ∃ t, PSs (cxOf C8.CX0 P w K mg base N x (defScope st) f cdv A outer s H E).nox (defBody st) t ∧ t { nx := fun _ H' => Q .non H', rt := Q } (start N vs) H) :
    ∃ fd, FunD K x x (defArgs st) (defBody st) (defScope st) [] [] f fd ∧ FnOk P w K mg base C8.CX0 (k + 1) f fd ps sp := by
  obtain ⟨fd, F⟩ := F
  refine ⟨fd, F, F.ok S len (fun cdv A outer s H vs Q E hr h => ?_)⟩
  obtain ⟨t, h1, h2⟩ := hbody cdv A outer s H vs Q E hr h
  exact ⟨t, h1.nox, h2⟩

section
variable {P : Program} {w : World} {K : PySem.W.Frag} {mg : Str → Option Value} {base : Heap}
abbrev n_l_law : List Str := ["_law_script", "_law_k", "_law_pool", "_law_setup_here", "_law_paths_here", "_law_trace_here", "_law_outs", "_law_told", "_law_there", "_law_single", "_law_path", "_law_name", "_law_share", "_law_rule_here", "_law_number", "_law_row", "_law_at", "_law_kind", "_law_page", "_law_holders", "_law_word", "_law_one"]
theorem sc_l_law : FnScope n_l_law ["_law_script"] (defScope s_l_law) := C8.fnScope_by (by decide +kernel)

theorem ok_l_law  (T : Ctx K mg) : ∃ fd, FunD K "law" "law" (defArgs s_l_law) (defBody s_l_law) (defScope s_l_law) [] [] (He.ga K "law") fd ∧ FnOk P w K mg base C8.CX0 21 (He.ga K "law") fd ["_law_script"] (sp_l_law K) := by
  refine calF_of T.f_l_law (N := n_l_law) sc_l_law (fun _ _ _ _ _ _ us hl => match us, hl with | [_], _ => rfl) (fun vs H Q E h => ?len) (fun cdv A outer s H vs Q E hr h => ?body)
  case len =>
    obtain ⟨_, _, rfl, _⟩ := h
    rfl
  case body =>
    obtain ⟨a, ns, rfl, hA, hns, k'⟩ := h
    refine ⟨_, (pss_cons (ps_for PassesOwn.never (by rfl) (pi_range1 (by rfl) (T.free _ (by decide)) (pa_cons (pe_callB (call_max2 rfl) (by rfl) (T.free _ (by decide)) (by decide +kernel) (pa_cons pe_int (pa_cons (pe_callB (call_min2 rfl) (by rfl) (T.free _ (by decide)) (by decide +kernel) (pa_cons (pe_callB (call_len_seqK (K := K)) (by rfl) (T.free _ (by decide)) (by decide +kernel) (pa_cons (pv 0) pa_nil)) (pa_cons pe_int pa_nil))) pa_nil))) pa_nil)) (pg_name (i := 1) sc_l_law.nd rfl (Or.inl rfl)) (pss_cons (ps_set (i := 2) sc_l_law.nd rfl (Or.inl rfl) (C8.pe_c (ok_l_hand T) hr (by decide) (by rfl) (pa_cons (pv 0) (pa_cons (pv 1) pa_nil)))) (pss_cons (ps_asg (C8.pe_c (ok_l_setup T) hr (by decide) (by rfl) (pa_cons (pv 2) (pa_cons pe_int pa_nil))) (pg_tupK (K := K) (n := 2) (by rfl) (pgs_cons (pg_name (i := 3) sc_l_law.nd rfl (Or.inl rfl)) (pgs_cons (pg_name (i := 4) sc_l_law.nd rfl (Or.inl rfl)) pgs_nil)))) (pss_cons (ps_set (i := 5) sc_l_law.nd rfl (Or.inl rfl) (C8.pe_mk (ok_Trace_init T) hr (by decide) (by rfl) (pa_cons (C8.pe_c (ok_l_trace T) hr (by decide) (by rfl) (pa_cons (pv 2) (pa_cons (pv 4) (pa_cons pe_int (pa_cons pe_str pa_nil))))) pa_nil))) (pss_cons (ps_set (i := 6) sc_l_law.nd rfl (Or.inr rfl) (C8.pe_c (ok_l_some_outs T) hr (by decide) (by rfl) (pa_cons (pv 2) (pa_cons (pv 3) (pa_cons (pv 5) (pa_cons (pv 4) pa_nil)))))) (pss_cons (ps_if (pt_cmpR op_notN (C8.pe_c (ok_check_run T) hr (by decide) (by rfl) (pa_cons (pv 3) (pa_cons (pv 5) (pa_cons (pv 6) pa_nil)))) pe_non (by rfl)) (pss_one (ps_ret pe_bl)) pss_nil) (pss_cons (ps_asg (pe_tup (pa_cons (C8.pe_c (ok_papers_of T) hr (by decide) (by rfl) (pa_cons (pv 3) (pa_cons (pv 5) (pa_cons (pv 6) pa_nil)))) (pa_cons (pe_lst pa_nil) (pa_cons pe_dnewK pa_nil)))) (pg_tupK (K := K) (n := 3) (by rfl) (pgs_cons (pg_name (i := 7) sc_l_law.nd rfl (Or.inl rfl)) (pgs_cons (pg_name (i := 8) sc_l_law.nd rfl (Or.inl rfl)) (pgs_cons (pg_name (i := 9) sc_l_law.nd rfl (Or.inr rfl)) pgs_nil))))) (pss_cons (ps_for PassesOwn.never (by rfl) (pi_listK (K := K) (pv 4)) (pg_name (i := 10) sc_l_law.nd rfl (Or.inl rfl)) (pss_cons (ps_asg (C8.pe_mt (ok_Setup_found T) hr (by decide) (pv 3) (pa_cons (pv 10) pa_nil)) (pg_tupK (K := K) (n := 3) (by rfl) (pgs_cons (pg_name (i := 11) sc_l_law.nd rfl (Or.inl rfl)) (pgs_cons (pg_name (i := 12) sc_l_law.nd rfl (Or.inl rfl)) (pgs_cons (pg_name (i := 13) sc_l_law.nd rfl (Or.inl rfl)) pgs_nil))))) (pss_one (ps_dput (hu_of hr) (pv 9) (pv 10) (pe_mkK (ok_Alone_init T) hr (by decide) (by rfl) (pa_cons (pv 12) (pa_cons (pv 13) pa_nil)) (pk_cons (C8.pe_mt0 (ok_Setup_sizes T) hr (by decide) (pv 3)) pk_nil)) rfl)))) (pss_one (ps_for PassesOwn.never (by rfl) (pi_enumK (K := K) (by rfl) (T.free _ (by decide)) (pa_cons (C8.pe_mt0 (ok_Trace_rows T) hr (by decide) (pv 5)) pa_nil)) (pg_tupK (K := K) (n := 2) (by rfl) (pgs_cons (pg_name (i := 14) sc_l_law.nd rfl (Or.inr rfl)) (pgs_cons (pg_name (i := 15) sc_l_law.nd rfl (Or.inl rfl)) pgs_nil))) (pss_cons (ps_asg (pv 15) (pg_tupK (K := K) (n := 4) (by rfl) (pgs_cons (pg_name (i := 16) sc_l_law.nd rfl (Or.inl rfl)) (pgs_cons (pg_name (i := 17) sc_l_law.nd rfl (Or.inl rfl)) (pgs_cons (pg_name (i := 10) sc_l_law.nd rfl (Or.inl rfl)) (pgs_cons (pg_name (i := 18) sc_l_law.nd rfl (Or.inr rfl)) pgs_nil)))))) (pss_cons (ps_set (i := 19) sc_l_law.nd rfl (Or.inl rfl) (pe_callTy (call_tuple_ofK (K := K)) (by rfl) (T.free _ (by decide)) (by decide +kernel) (pa_cons (pe_lc (own := [("_law_one", 21)]) (by rfl) sc_l_law.nd (pi_listK (K := K) (pv 4)) (blkOk_by (own := [("_law_one", 21)]) (N := n_l_law) (sc := defScope s_l_law) (by decide +kernel)) (fun _ _ _ _ _ => pg_name (i := 21) sc_l_law.nd rfl (Or.inl rfl)) (fun _ _ _ _ _ => by exact (pts_one (pt_cmpR (op_in_own (ok_Alone_contains T) hr (by decide)) (pv 18) (pe_dget (hu_of hr) (pv 9) (pv 21) (fun _ _ => rfl)) (by rfl)))) (fun _ _ _ _ _ => by exact (pv 21))) pa_nil))) (pss_cons (ps_set (i := 20) sc_l_law.nd rfl (Or.inl rfl) (pe_ifExp (pt_cmpR op_isN (pe_ix (ix_listK (K := K)) (pv 7) (pv 14) (fun _ _ => rfl)) pe_non (by rfl)) pe_non (pe_ix (ix_tupK (K := K)) (pe_ix (ix_listK (K := K)) (pv 7) (pv 14) (fun _ _ => rfl)) pe_int (fun _ _ => rfl)))) (pss_cons (ps_if (PW.pt (pw_or (pt_cmpR op_ne (pe_cmpR op_isN (pv 20) pe_non (by rfl)) (pe_cmpR (op_notIn_seqK (K := K)) (pv 18) (pv 8) (by rfl)) (by rfl)) (pw_or1 (pt_cmpR op_ne (pe_cmpR op_eq (pv 20) pe_str (by rfl)) (pe_cmpR (op_in_seqK (K := K)) (pv 10) (pv 19) (by rfl)) (by rfl))))) (pss_one (ps_ret pe_bl)) pss_nil) (pss_cons (ps_if (PW.pt (pw_and (pt_cmpR op_eq (pv 20) pe_str (by rfl)) (pw_and1 (PW.pt (pw_or (pt_cmpR (op_neDK (K := K) hr.units) (pe_ix (ix_tupK (K := K)) (pe_ix (ix_listK (K := K)) (pv 7) (pv 14) (fun _ _ => rfl)) pe_int (fun _ _ => rfl)) (pv 19) (by rfl)) (pw_or1 (pt_cmpR (op_eqDK (K := K) hr.units) (pv 19) (pe_tup pa_nil) (by rfl)))))))) (pss_one (ps_ret pe_bl)) pss_nil) (pss_cons (ps_if (PW.pt (pw_and (pt_cmpR op_eq (pv 20) pe_str (by rfl)) (pw_and1 (PW.pt (pw_or (pt_cmpR (op_neDK (K := K) hr.units) (pv 19) (pe_tup pa_nil) (by rfl)) (pw_or1 (pt_not (pt_chain op_le op_le (by exact pe_int) (by exact (pe_ix (ix_tupK (K := K)) (pe_ix (ix_listK (K := K)) (pv 7) (pv 14) (fun _ _ => rfl)) pe_int (fun _ _ => rfl))) (by exact (pv 14)))))))))) (pss_one (ps_ret pe_bl)) pss_nil) (pss_cons (ps_expr (C8.pe_mt (ok_Alone_request T) hr (by decide) (pe_dget (hu_of hr) (pv 9) (pv 10) (fun _ _ => rfl)) (pa_cons (pv 16) (pa_cons (pv 17) (pa_cons (pv 18) pa_nil))))) (pss_one (ps_setLc (i := 8) (own := [("_law_name", 11)]) (by rfl) sc_l_law.nd rfl rfl (sw_true rfl rfl rfl (by decide +kernel)) (pi_listK (K := K) (pe_op op_cat (pv 8) (pe_op op_rep (pe_lst (pa_cons (pv 18) pa_nil)) (pe_callTy call_int1 (by rfl) (T.free _ (by decide)) (by decide +kernel) (pa_cons (pe_cmpR (op_notIn_seqK (K := K)) (pv 18) (pv 8) (by rfl)) pa_nil))))) (blkOk_by (own := [("_law_name", 11)]) (N := n_l_law) (sc := defScope s_l_law) (by decide +kernel)) (fun _ _ _ _ _ => pg_name (i := 11) sc_l_law.nd rfl (Or.inl rfl)) (fun _ _ _ _ _ => by exact (pts_one (pt_cmpR (op_notIn_seqK (K := K)) (pv 11) (pe_ix (ix_listK (K := K)) (pv 6) (pv 14) (fun _ _ => rfl)) (by rfl)))) (fun _ _ _ _ _ => by exact (pv 11))))))))))))))))))))) (pss_one (ps_ret pe_bl))), ?_⟩
    obtain ⟨RS, SS, hRS⟩ := sq_cells hA
    have hmin : ∃ m : Int, m ≤ 6 ∧ Ev (tCB (fun xs H Q => ∃ i j, xs = [.int i, .int j] ∧ Q (.int (if j < i then j else i)) H) (tCons (tCB (rLenS K) (tCons (tVar 0) tNil)) (tCons (tC (.int 6)) tNil))) (L2.start n_l_law [.ref a]) H (.int m) :=
      ⟨if (6 : Int) < ((ns.map V.int).length : Int) then 6 else ((ns.map V.int).length : Int), by split <;> omega, ev_cb (ea_cons (ev_len (ev_var rfl) hA) (ea_cons ev_c ea_nil)) fun H1 e Q q => ⟨_, _, rfl, q H1 (Ex.refl _)⟩⟩
    obtain ⟨m, hm6, hmv⟩ := hmin
    refine q_forR1 (ea_cons (ev_max2 ev_c hmv) ea_nil) (by split <;> omega) (fun i σ' H' => (∃ a1 a2 a3 a4 a5 a6 a7 a8 a9 a10 a11 a12 a13 a14 a15 a16 a17 a18 a19 a20 a21, σ' = [some (.ref a), a1, a2, a3, a4, a5, a6, a7, a8, a9, a10, a11, a12, a13, a14, a15, a16, a17, a18, a19, a20, a21]) ∧ Sat H' RS)
      (fun H1 e1 => ⟨⟨_, _, _, _, _, _, _, _, _, _, _, _, _, _, _, _, _, _, _, _, _, rfl⟩, SS.same e1⟩) ?_ (fun σ' H' h => k' H')
    rintro i σ' H1 hi ⟨⟨a1, a2, a3, a4, a5, a6, a7, a8, a9, a10, a11, a12, a13, a14, a15, a16, a17, a18, a19, a20, a21, rfl⟩, S1⟩
    have hi6 : (i : Int) < 6 := by
      have h2 : (if m > 2 then m else 2) ≤ 6 := by split <;> omega
      omega
    -- the pool
    refine q_asgD ?_
    refine ⟨_, rfl, _, rfl, a, ns, (i : Int), rfl, hRS H1 S1, by omega, by omega, by omega, fun p x y H2 hp e2 h2 => ?_⟩
    have S2 : Sat H2 (PoolP p :: RS) := PoolP.open_.mpr ⟨x, y, S1.grow hp e2 h2⟩
    -- the setup
    refine ⟨_, rfl, p, RS, rfl, S2, fun t s l frames z ts H3 S3 ht hz hTr hts1 hf0 hf8 t3 => ⟨t, _, rfl, st_of ht, rfl, _, _, rfl, _, _, rfl, rfl, ?_⟩⟩
    obtain ⟨hL, hpth, hsh, hlf1⟩ := lf_ok hTr
    rw [hpth] at S3
    generalize lfOf ts = lf at hL hpth hsh hlf1 S3
    have hlf21 := hL.len
    -- the trace
    refine q_nx ?_
    have S3b : Sat H3 (PoolP p :: pt l (.lst ((lf.map fun x : Str × (Str × Int × Nat) => x.1).map V.str)) :: SetupP K s frames z ts :: RS) := (S3.pull 1 rfl).pull 2 rfl
    refine q_asgD ?_
    refine ⟨_, rfl, _, rfl, p, l, lf.map (·.1), _, rfl, S3b, by rw [List.length_map]; omega, by rw [List.length_map]; omega, (fun w hw => by
      obtain ⟨x, hx, rfl⟩ := List.mem_map.mp hw
      exact (hL.ok x hx).1), fun f xs qs H4 S4 hq hQ hqp t4 => fun tr xdx hx hxd hne => ?_⟩
    have S5 := S4.made (C := He.ga K "Trace") hx hxd hne
    have t5 : Tu H4 (upd (upd H4 xdx (.own tr)) tr (.ins (He.ga K "Trace") xdx [])) := (Tu.new hxd).trans (Tu.new (by rw [upd_ne hne.symm]; exact hx))
    refine ⟨tr, xdx, f, xs, qs, _, rfl, S5, hq.tu t5, hQ, fun u H6 S6 hu t6 => ⟨rfl, ?_⟩⟩
    have S7 : Sat H6 (TraceP K tr qs :: pt f (.lst xs) :: PoolP p :: pt l (.lst ((lf.map fun x : Str × (Str × Int × Nat) => x.1).map V.str)) :: SetupP K s frames z ts :: RS) :=
      TraceP.open_.mpr ⟨⟨xdx, u, xs⟩, (Sat.tp.mpr ⟨hu, Sat.vp.mpr ⟨hq.tu (t5.trans t6), S6⟩⟩ : Sat H6 (tp u xs :: vp (fun H => ReqL H xs qs) (fun _ _ h e => h.tu e) :: pt tr (.ins (He.ga K "Trace") xdx [("own_requests", .ref u)]) :: pt f (.lst xs) :: PoolP p :: pt l (.lst ((lf.map fun x : Str × (Str × Int × Nat) => x.1).map V.str)) :: SetupP K s frames z ts :: RS)).pull 2 rfl⟩
    have S8 : Sat H6 (TraceP K tr qs :: PoolP p :: pt l (.lst ((lf.map fun x : Str × (Str × Int × Nat) => x.1).map V.str)) :: SetupP K s frames z ts :: RS) := S7.sub ((List.sublist_cons_self _ _).cons_cons _)
    have S9 : Sat H6 (PoolP p :: SetupP K s frames z ts :: TraceP K tr qs :: pt l (.lst ((lf.map fun x : Str × (Str × Int × Nat) => x.1).map V.str)) :: RS) := (S8.pull 3 rfl).pull 2 rfl
    clear S8 S7 S6 S5 S4 S3b S3 S2
    -- the outs
    refine q_asgD ?_
    refine ⟨_, rfl, _, rfl, _, rfl, _, rfl, p, s, tr, l, z, frames, frames, ts, lf, qs, RS, rfl, S9, hz, hTr, hL, hQ, hqp, hsh, fun ol outs H7 S10 hR hop t7 => ?_⟩
    have hin : ∀ q ∈ qs, q.path ∈ leavesS (leavesK 2) ts "" := fun q hq => by rw [hL.paths]; exact hqp q hq
    have S11 : Sat H7 (SetupP K s frames z ts :: TraceP K tr qs :: OutsP ol outs :: PoolP p :: pt l (.lst ((lf.map fun x : Str × (Str × Int × Nat) => x.1).map V.str)) :: RS) := (S10.pull 3 rfl).pull 3 rfl
    -- check_run
    refine q_ifRaw (fun σ' H' => σ' = [some (.ref a), some (.int (i : Int)), some (.ref p), some (.ref s), some (.ref l), some (.ref tr), some (.ref ol), a7, a8, a9, a10, a11, a12, a13, a14, a15, a16, a17, a18, a19, a20, a21] ∧ Sat H' (SetupP K s frames z ts :: TraceP K tr qs :: OutsP ol outs :: PoolP p :: pt l (.lst ((lf.map fun x : Str × (Str × Int × Nat) => x.1).map V.str)) :: RS))
      (fun nx hnx => t_test (t_op ⟨_, rfl, _, rfl, _, rfl, s, tr, ol, z, frames, frames, ts, lf, qs, outs, _, rfl, S11, hz, hTr, hL, hR, hop, hin, fun H8 S12 t8 => ⟨rfl, _, rfl, of_ifF (hnx _ _ ⟨rfl, S12⟩)⟩⟩)) ?_
    rintro σ' H8 ⟨rfl, S12⟩
    clear S11 S10 S9
    -- told, there, single
    refine ⟨_, rfl, _, rfl, _, rfl, s, tr, ol, z, frames, frames, ts, lf, qs, outs, _, rfl, S12, hz, hTr, hL, hR, hop, hin, fun tf tv H9 S13 t9 htl htv => ⟨Nat.zero_le _, fun th hth => fun d hd => ⟨sz_of (by show 3 ≤ 100000; decide), fun t ht => ⟨t, _, rfl, st_of upd_same, rfl, _, _, rfl, _, _, rfl, _, _, rfl, rfl, ?_⟩⟩⟩⟩
    have S14 := ((S13.new (o := .lst (([] : List Str).map V.str)) hth).new (o := .dK (mdK [])) hd).same (Ex.new (o := .tup [.ref tf, .ref th, .ref d]) ht)
    have t14 : Tu H9 (upd (upd (upd H9 th (.lst [])) d (.dK [])) t (.tup [.ref tf, .ref th, .ref d])) := (Tu.new hth).trans ((Tu.new hd).trans (Tu.new ht))
    have S14 : Sat (upd (upd (upd H9 th (.lst [])) d (.dK [])) t (.tup [.ref tf, .ref th, .ref d])) (pt d (.dK (mdK [])) :: pt th (.lst (([] : List Str).map V.str)) :: pt tf (.lst tv) :: SetupP K s frames z ts :: TraceP K tr qs :: OutsP ol outs :: PoolP p :: pt l (.lst ((lf.map fun x : Str × (Str × Int × Nat) => x.1).map V.str)) :: RS) := S14
    generalize upd (upd (upd H9 th (.lst [])) d (.dK [])) t (.tup [.ref tf, .ref th, .ref d]) = H10 at S14 t14 ⊢
    have S15 : Sat H10 (pt d (.dK (mdK [])) :: al (machPs K z []) :: SetupP K s frames z ts :: pt th (.lst (([] : List Str).map V.str)) :: pt tf (.lst tv) :: TraceP K tr qs :: OutsP ol outs :: PoolP p :: pt l (.lst ((lf.map fun x : Str × (Str × Int × Nat) => x.1).map V.str)) :: RS) :=
      ((Sat.al (l' := machPs K z [])).mpr ((S14.pull 3 rfl).pull 1 rfl)).swap
    -- a machine for each path
    refine q_forL (g := gName 10) (xs := (lf.map fun x : Str × (Str × Int × Nat) => x.1).map V.str) (ev_var rfl) (sq_of (S15.get 8 rfl)) (fun j σ' H' => (∃ a10 a11 a12 a13, σ' = [some (.ref a), some (.int (i : Int)), some (.ref p), some (.ref s), some (.ref l), some (.ref tr), some (.ref ol), some (.ref tf), some (.ref th), some (.ref d), a10, a11, a12, a13, a14, a15, a16, a17, a18, a19, a20, a21]) ∧ Tu H10 H' ∧ ∃ mx, msOf mx = ms0 (lf.take j) ∧ Sat H' (pt d (.dK (mdK mx)) :: al (machPs K z mx) :: SetupP K s frames z ts :: pt th (.lst (([] : List Str).map V.str)) :: pt tf (.lst tv) :: TraceP K tr qs :: OutsP ol outs :: PoolP p :: pt l (.lst ((lf.map fun x : Str × (Str × Int × Nat) => x.1).map V.str)) :: RS))
      (fun H3 e3 => ⟨⟨_, _, _, _, rfl⟩, Ex.tu e3, [], rfl, S15.same e3⟩) (fun j σ' H' _ q => sq_of (let ⟨_, _, mx, _, S⟩ := q; S.get 8 rfl)) ?_ ?_
    · rintro j x σ' H' hx ⟨⟨a10, a11, a12, a13, rfl⟩, p1, mx, p2, p3⟩
      rw [List.getElem?_map, List.getElem?_map] at hx
      obtain ⟨pt_, hpt, rfl⟩ := Option.map_eq_some_iff.mp hx
      obtain ⟨x, hxl, rfl⟩ := Option.map_eq_some_iff.mp hpt
      have hxm := List.mem_of_getElem? hxl
      have hxlen : mx.length ≤ 1000 := by
        have h1 := msOf_len p2
        have h2 : (ms0 (lf.take j)).length = (lf.take j).length := List.length_map _
        rw [List.length_take] at h2
        omega
      refine q_found (x := x) (ev_var rfl) (ev_var rfl) (p3.pull 2 rfl) hTr.len hL hxm fun H4 e4 => ?_
      refine s_addM (x := x) rfl (p3.same e4) hz hL hxm (ms0_fresh hL.nodup hxl p2) (fun H5 e5 => ea_cons (ev_var rfl) (ea_cons (ev_var rfl) ea_nil)) (fun H5 e5 => ev_var rfl) (fun H5 S5 => ev_var rfl) (fun H5 => ev_var rfl) hxlen fun a H5 S5 t5 => ?_
      refine ⟨⟨_, _, _, _, rfl⟩, (p1.trans (Ex.tu e4)).trans t5, _, ?_, S5⟩
      rw [ms0_take hxl, ← p2]
      unfold msOf
      rw [List.map_append]
      rfl
    rintro σ' H11 ⟨⟨a10, a11, a12, a13, rfl⟩, t11, mx, hmx, S16⟩
    rw [List.length_map, List.length_map, List.take_length] at hmx
    obtain ⟨x6, S16t⟩ := TraceP.open_.mp (S16.pull 5 rfl)
    have hT6 := S16t.traceC
    have hxl := hT6.reqs.len
    have h40 := hQ.len
    have t9b : Tu H9 H11 := t14.trans t11
    -- request by request
    refine ⟨_, rfl, tr, x6.dx, _, rfl, hT6.ins, rfl, tr, x6.dx, x6.u, x6.xs, qs, rfl, hT6, fun rp H12 hrp e12 h12 => ⟨rp, x6.xs, rfl, sq_of h12, for_it walk_enum (fun j σ' H' => (∃ thi b10 b11 b12 b13 b14 b15 b16 b17 b18 b19 b20 b21, σ' = [some (.ref a), some (.int (i : Int)), some (.ref p), some (.ref s), some (.ref l), some (.ref tr), some (.ref ol), some (.ref tf), some (.ref thi), some (.ref d), b10, b11, b12, b13, b14, b15, b16, b17, b18, b19, b20, b21] ∧ Tu H12 H' ∧ ∃ mx, msOf mx = msAt z (ms0 lf) qs j ∧
      Sat H' (pt d (.dK (mdK mx)) :: al (machPs K z mx) :: SetupP K s frames z ts :: pt thi (.lst ((thAt qs outs j).map V.str)) :: pt tf (.lst tv) :: TraceP K tr qs :: OutsP ol outs :: PoolP p :: pt l (.lst ((lf.map fun x : Str × (Str × Int × Nat) => x.1).map V.str)) :: pt rp (.lst x6.xs) :: RS)))
      ⟨th, _, _, _, _, _, _, _, _, _, _, _, _, rfl, Tu.refl _, mx, hmx, Sat.back (l := [_, _, _, _, _, _, _, _, _]) (S16.grow hrp e12 h12)⟩ (fun j σ' H' _ q => sq_of (let ⟨_, _, _, _, _, _, _, _, _, _, _, _, _, _, _, _, _, S⟩ := q; S.get 9 rfl)) ?_ ?_⟩⟩
    · rintro j v σ' H' H13 hj ⟨thi, b10, b11, b12, b13, b14, b15, b16, b17, b18, b19, b20, b21, rfl, p1, mx, hmx, S17⟩ ⟨t, xa, y, rfl, ht, rfl, ha, hb⟩
      cases ha
      obtain ⟨q, hq, rq, rfl, hrq⟩ := ((hT6.reqs.ex e12).tu p1).get hb
      have hjq : j < qs.length := (List.getElem?_eq_some_iff.mp hq).1
      obtain ⟨o, ho⟩ : ∃ o, outs[j]? = some o := ⟨_, List.getElem?_eq_getElem (by rw [hR.len]; exact hjq)⟩
      have hst := hR.step j q o hq ho
      have hqok := hst.qok
      have hM := hst.mok
      have hheld := hR.held hz j (by omega)
      have hmp : mx.map (·.path) = lf.map (·.1) := by
        rw [← msOf_paths, hmx]
        have : ∀ i, (msAt z (ms0 lf) qs i).map (·.1) = lf.map (·.1) := by
          intro i
          unfold msAt
          generalize qs.take i = l
          have h0 : (ms0 lf).map (·.1) = lf.map (·.1) := by unfold ms0; rw [List.map_map]; rfl
          rw [← h0]
          generalize ms0 lf = m0
          induction l generalizing m0 with
          | nil => rfl
          | cons q l ih => rw [List.foldl_cons, ih, reqMs_paths]
        exact this j
      have hnd : (mx.map (·.path)).Nodup := by rw [hmp]; exact hL.nodup
      have hmlen : mx.length ≤ 21 := by
        have := congrArg List.length hmp
        rw [List.length_map, List.length_map] at this
        omega
      have hp2 : q.path ∈ mx.map (·.path) := by rw [hmp]; exact hqp q (List.mem_of_getElem? hq)
      obtain ⟨l1, y, l2, e, hyp, hl1, hyv⟩ := mdK_find hp2
      have hymem : (y.path, y.m) ∈ msAt z (ms0 lf) qs j := by rw [← hmx, e]; exact List.mem_map.mpr ⟨y, by simp, rfl⟩
      have hyok := hM.ok _ hymem
      have hymom : y.m.moment ≤ q.at_ := hst.moment _ hymem
      have eT : Ex H' (upd H' t (.tup [.int (j : Nat), .ref rq])) := Ex.new ht
      refine ⟨t, _, rfl, st_of upd_same, rfl, _, _, rfl, _, _, rfl, rfl, ?_⟩
      refine ⟨_, rfl, rq, _, rfl, st_of (eT _ _ hrq), rfl, _, _, rfl, _, _, rfl, _, _, rfl, _, _, rfl, rfl, ?_⟩
      have S18 := S17.same eT
      have t18 : Tu H12 (upd H' t (.tup [.int (j : Nat), .ref rq])) := p1.trans (Ex.tu eT)
      generalize upd H' t (.tup [.int (j : Nat), .ref rq]) = H14 at S18 t18 ⊢
      have hMv := Sat.machs (Sat.al.mp (S18.pull 1 rfl))
      have hlpq : H14 l = some (.lst ((mx.map (·.path)).map V.str)) := by rw [hmp]; exact S18.get 8 rfl
      -- holders
      refine q_nx ?_
      refine q_asgW (xs := (holdersF (msAt z (ms0 lf) qs j) q.page).map V.str) (ew_tupleOf (K := K) ?_) fun ho2 H15 e15 h15 => ?_
      · rw [← hmx]
        exact el_holders (R := []) (z := z) (ev_var rfl) (sq_of hlpq) (S18.get 0 rfl) hMv hnd (by omega) (fun _ => rfl) (fun _ => rfl) (fun _ => rfl) fun _ => rfl
      have S19 := S18.same e15
      have t19 := t18.trans (Ex.tu e15)
      have hhok := holders_ok hM q.page
      -- the word
      obtain ⟨v, hv⟩ : ∃ v, tv[j]? = some v := ⟨_, List.getElem?_eq_getElem (by rw [htl]; exact hjq)⟩
      have hPV := (htv j q v hq hv).tu ((t9b.trans (Ex.tu e12)).trans t19)
      obtain ⟨wv, sec, hW⟩ := hPV.word fun ⟨x, hx, _, hpx⟩ => hheld _ ⟨x, hx, hpx⟩
      have hIx : ∀ (σ : L2.St) (H : Hp), Ex H15 H → σ[7]? = some (some (.ref tf)) → σ[14]? = some (some (.int (j : Int))) → Ev (tOp (rIxL K) (tVar 7) (tVar 14)) σ H v := fun σ H e h7 h14 => ev_op (ev_var h7) (ev_var h14) (rv_ixL (K := K) (sq_of (e _ _ (S19.get 4 rfl))) (at_of (j := j) rfl hv))
      refine q_asg (v := wv) (ev_if (b := decide (v = .non)) (et_test (ev_op (hIx _ _ (Ex.refl _) rfl rfl) ev_c rv_isN)) (fun hb => ev_is ev_c (hW.non (of_decide_eq_true hb)).symm) fun hb => ?_) fun H16 e16 => ?_
      · obtain ⟨tt, htt, htt2⟩ := hW.tup (of_decide_eq_false hb)
        exact ev_op (hIx _ _ (Ex.refl _) rfl rfl) ev_c (by rw [htt]; exact rv_ixT (K := K) (st_of htt2) rfl)
      have S20 := S19.same e16
      have h16 := e16 _ _ h15
      have hsc : ∀ z : Str, scal wv (.str z) = true := fun z => by rcases hW.sc with h | ⟨z', h⟩ <;> rw [h] <;> rfl
      -- first test
      refine q_when (b := false) (et_is (et_or (a := false) (b := false) (et_is (et_test (ev_op (ev_op (ev_var rfl) ev_c rv_isN) (ev_op (ev_var rfl) (ev_var rfl) (rv_niL (K := K) (sq_of (S20.get 3 rfl)) rfl (flatS _))) (rv_ne rfl))) ?_) fun _ => et_is (et_test (ev_op (ev_op (ev_var rfl) ev_c (rv_eq (hsc _))) (ev_op (ev_var rfl) (ev_var rfl) (rv_isT (K := K) (st_of h16) rfl (flatS _))) (rv_ne rfl))) ?_) rfl) (fun h => nomatch h) fun _ H17 e17 => ?_
      · rw [inS, hW.c1]
        simp
      · rw [inS, hW.c2]
        simp
      have e167 := e16.trans e17
      have hsnd : ∀ (σ : L2.St) (H : Hp), Ex H17 H → σ[7]? = some (some (.ref tf)) → σ[14]? = some (some (.int (j : Int))) → wv ≠ .non → Ev (tOp (rIxT K) (tOp (rIxL K) (tVar 7) (tVar 14)) (tC (.int 1))) σ H sec := fun σ H e h7 h14 hne => by
        obtain ⟨tt, htt, htt2⟩ := hW.tup fun z => hne (hW.non z)
        exact ev_op (hIx _ _ (e167.trans e) h7 h14) ev_c (by rw [htt]; exact rv_ixT (K := K) (st_of (e _ _ (e167 _ _ htt2))) rfl)
      -- second test
      refine q_when (b := false) (et_is (et_and (b := false) (et_test (ev_op (ev_var rfl) ev_c (rv_eq (hsc _)))) fun hw => ?_) (Bool.and_false _)) (fun h => nomatch h) fun _ H18 e18 => ?_
      · have hw := of_decide_eq_true hw
        obtain ⟨u2, hsec, hu2, hne⟩ := hW.c3 hw
        refine et_is (et_or (a := false) (b := false) (et_is (et_test (ev_neTT (xs := holdersF (msAt z (ms0 lf) qs j) q.page) (ys := holdersF (msAt z (ms0 lf) qs j) q.page) (ew_ev (u := u2) (by rw [← hsec]; exact hsnd _ _ (Ex.refl _) rfl rfl (by rw [hw]; exact fun z => nomatch z)) (e167 _ _ hu2)) (ew_var rfl (e17 _ _ h16)) hhok hhok)) (by simp)) fun _ => et_is (et_test (ev_eqTT (xs := holdersF (msAt z (ms0 lf) qs j) q.page) (ys := []) (ew_var rfl (e17 _ _ h16)) (ew_new (eu_tup ea_nil (Nat.zero_le _))) hhok (fun x hx => nomatch hx))) (decide_eq_false hne)) rfl
      -- third test
      refine q_when (b := false) (et_is (et_and (b := false) (et_test (ev_op (ev_var rfl) ev_c (rv_eq (hsc _)))) fun hw => ?_) (Bool.and_false _)) (fun h => nomatch h) fun _ H19 e19 => ?_
      · have hw := of_decide_eq_true hw
        obtain ⟨k2, hsec, hnil, hk1, hk2⟩ := hW.c4 hw
        subst hsec
        refine et_is (et_or (a := false) (b := false) (et_is (et_test (ev_neTT (xs := holdersF (msAt z (ms0 lf) qs j) q.page) (ys := []) (ew_var rfl (e18 _ _ (e17 _ _ h16))) (ew_new (eu_tup ea_nil (Nat.zero_le _))) hhok (fun x hx => nomatch hx))) (by rw [decide_eq_true hnil]; rfl)) fun _ => et_not (a := true) (et_test (ev_is (ev_chain (y := .int k2) (a := true) (b := true) ev_c (hsnd _ _ e18 rfl rfl (by rw [hw]; exact fun z => nomatch z)) (rv_leT hk1) (fun _ => ev_var rfl) fun _ => rv_leT hk2) rfl))) rfl
      have S21 := S20.same ((e17.trans e18).trans e19)
      have t21 := (t19.trans (Ex.tu e16)).trans (Ex.tu ((e17.trans e18).trans e19))
      -- the request
      subst e
      obtain ⟨wy, hwy⟩ := Sat.machs (Sat.al.mp (S21.pull 1 rfl)) y (by simp)
      have S22 := ms_focus.mp (S21.pull 1 rfl)
      refine ⟨_, rfl, _, rfl, d, .ref y.a, rfl, ?_, y.a, wy.dx, _, rfl, hwy.ins, rfl, _, rfl, _, rfl, _, rfl, y.a, z, y.m, q.at_, q.kind, q.page, _, rfl, S22, hyok, hz, hymom, by have := hqok.at1; omega, hqok.kind, hqok.page, fun mv mdx mo mu mserved H20 S23 hmo t23 => ?_⟩
      · rw [← hyv]
        exact DGet.k (k := .inr q.path) (S21.get 0 rfl)
      refine q_nx ?_
      let y' : MY := ⟨y.path, y.a, reqF z y.m q.at_ q.page⟩
      have hms' : msOf (l1 ++ y' :: l2) = reqMs z (msAt z (ms0 lf) qs j) q := by rw [← hmx]; exact (reqMs_mid hyp hnd).symm
      have S24 := (ms_focus (y := y')).mpr S23.tail
      have S25 : Sat H20 (pt d (.dK (mdK (l1 ++ y' :: l2))) :: al (machPs K z (l1 ++ y' :: l2)) :: SetupP K s frames z ts :: pt thi (.lst ((thAt qs outs j).map V.str)) :: pt tf (.lst tv) :: TraceP K tr qs :: OutsP ol outs :: PoolP p :: pt l (.lst ((lf.map fun x : Str × (Str × Int × Nat) => x.1).map V.str)) :: pt rp (.lst x6.xs) :: RS) := by
        rw [mdK_mid l1 l2 y (reqF z y.m q.at_ q.page)]
        exact S24.swap
      clear S24 S23 S22
      -- the set
      obtain ⟨os, hOs, So⟩ := OutsP.open_.mp (S25.pull 6 rfl)
      have hol := So.get 0 rfl
      obtain ⟨ov, hov⟩ : ∃ ov, os[j]? = some ov := ⟨_, List.getElem?_eq_getElem (by rw [hOs.len, hR.len]; exact hjq)⟩
      obtain ⟨ou, rfl, hou⟩ := hOs.at_ j _ o hov ho
      have hth8 : H20 thi = some (.lst ((thAt qs outs j).map V.str)) := S25.get 3 rfl
      have hth1l : (thereF1 (thAt qs outs j) q.page).length ≤ 8 := nodup_len (l' := pagesL) (thereF1_nd hst.nd) (thereF1_pg hst.pg hqok.page)
      refine s_asgL (xs := (((thereF1 (thAt qs outs j) q.page)).filter fun x => !decide (x ∈ o)).map V.str) (el_filtN (K := K) (f := fun x => !decide (x ∈ o)) ?_ (by omega) (fun _ => rfl) (fun _ => rfl) fun x hx H21 e21 => et_is (et_test (ev_op (ev_var rfl) (ev_op (ev_var rfl) (ev_var rfl) (rv_ixL (K := K) (sq_of (e21 _ _ hol)) (at_of (j := j) rfl hov))) (rv_niT (K := K) (st_of (e21 _ _ hou)) rfl (flatS _)))) (by rw [inS])) fun th2 H21 hth2 e21 h21 => ?_
      · have hc := thereF1_cat (thAt qs outs j) q.page
        rw [← hc]
        refine el_catV (ev_var rfl) hth8 (el_rep (el_lst (ea_cons (ev_var rfl) ea_nil) (by show 1 ≤ 100000; decide)) (ev_int1 (ev_is (ev_op (ev_var rfl) (ev_var rfl) (rv_niL (K := K) (sq_of hth8) rfl (flatS _))) (by rw [inS]))) (by split <;> decide) (by show 1 ≤ 1000; decide)) ?_
        have := congrArg List.length hc
        rw [List.length_append, List.length_map (as := thereF1 _ _)] at this
        omega
      have S26 := (S25.grow hth2 e21 h21)
      refine ⟨th2, _, _, _, _, _, _, _, _, _, _, _, _, rfl, (t21.trans t23).trans (Ex.tu e21), l1 ++ y' :: l2, ?_, ?_⟩
      · rw [hms', msAt_succ hq]
      · rw [thAt_succ hq ho]
        have e5 : ((thereF1 (thAt qs outs j) q.page).filter fun x => !decide (x ∈ o)) = thereF (thAt qs outs j) q.page o := by
          unfold thereF
          apply List.filter_congr
          intro x _
          simp
        rw [e5] at S26
        have S27 : Sat H21 (pt th2 (.lst ((thereF (thAt qs outs j) q.page o).map V.str)) :: pt d (.dK (mdK (l1 ++ y' :: l2))) :: al (machPs K z (l1 ++ y' :: l2)) :: SetupP K s frames z ts :: pt tf (.lst tv) :: TraceP K tr qs :: OutsP ol outs :: PoolP p :: pt l (.lst ((lf.map fun x : Str × (Str × Int × Nat) => x.1).map V.str)) :: pt rp (.lst x6.xs) :: RS) :=
          S26.sub ((((List.sublist_cons_self _ _).cons_cons _).cons_cons _).cons_cons _ |>.cons_cons _)
        exact Sat.back (l := [_, _, _]) S27
    · rintro σ' H13 ⟨thi, b10, b11, b12, b13, b14, b15, b16, b17, b18, b19, b20, b21, rfl, p1, mx, hmx, S17⟩
      refine q_nx ⟨⟨_, _, _, _, _, _, _, _, _, _, _, _, _, _, _, _, _, _, _, _, _, rfl⟩, S17.sub ?_⟩
      exact (((((((((List.sublist_cons_self _ _).cons _).cons _).cons _).cons _).cons _).cons _).cons _).cons _).cons _
end
end N32
set_option Elab.async false
set_option linter.all false
set_option maxRecDepth 100000
set_option maxHeartbeats 0
namespace N32
open PySem PySem.W PySem.Calls PyProof.Rows HandSHeadRun
theorem of_map {α β : Type} {x : Option α} {f : α → β} {b : β} (h : x.map f = some b) : ∃ a, x = some a ∧ f a = b := by
  cases x with
  | none => cases h
  | some a => exact ⟨a, rfl, Option.some.inj h⟩
def hkN : PySem.W.Hook where
  α := He.AlD × Bool × Bool
  obs := fun s => (He5.obsA [] fnL (kOf s.heap.get?), faB (kOf s.heap.get?), exB (kOf s.heap.get?))
  val := fun _ => (He5.valA fnL, true, true)
  says := fun _ h => ∃ K : PySem.W.Frag, K.In h ∧ He5.SaysA [] fnL K ∧ faB K = true ∧ exB K = true
  of := fun _ s e => ⟨kOf s.heap.get?, He.frG_in, congrArg (fun z : He.AlD × Bool × Bool => z.1) e, congrArg (fun z : He.AlD × Bool × Bool => z.2.1) e, congrArg (fun z : He.AlD × Bool × Bool => z.2.2) e⟩
  keeps := fun _ _ _ ⟨K, hK, c⟩ k => ⟨K, PySem.W.Frag.In.keeps hK k, c⟩
def obN (s : PySem.W.SharedT) : He.AlD × Bool × Bool := (He5.obsA [] fnL (kOf (getT s)), faB (kOf (getT s)), exB (kOf (getT s)))
theorem obN_eq (s : PySem.W.SharedT) : obN s = hkN.obs s.abs := by
  have e : getT s = s.abs.heap.get? := funext (getT_eq s)
  unfold obN
  rw [e]
  rfl
theorem obs_join {K : PySem.W.Frag} {x y : List He5.DefA} (h1 : He5.obsA [] x K = He5.valA x) (h2 : He5.obsA [] y K = He5.valA y) : He5.obsA [] (x ++ y) K = He5.valA (x ++ y) := by
  have a1 : (x.all fun d => d.ok K) = true := congrArg (fun z : He.AlD => z.1) h1
  have a2 : (y.all fun d => d.ok K) = true := congrArg (fun z : He.AlD => z.1) h2
  have b1 : (x.map fun d => He5.fnA K (d.at_ K)) = x.map He5.DefA.val := congrArg (fun z : He.AlD => z.2) h1
  have b2 : (y.map fun d => He5.fnA K (d.at_ K)) = y.map He5.DefA.val := congrArg (fun z : He.AlD => z.2) h2
  refine Prod.ext ?_ ?_
  · show ((x ++ y).all fun d => d.ok K) = true
    rw [List.all_append, a1, a2]
    rfl
  · show ((x ++ y).map fun d => He5.fnA K (d.at_ K)) = (x ++ y).map He5.DefA.val
    rw [List.map_append, List.map_append, b1, b2]
theorem fnL_two : (fn0 ++ fn1) ++ (fn2 ++ fn3) = fnL := (List.append_assoc (fn0 ++ fn1) fn2 fn3).symm
theorem run_all (w : World) : RunEq RW (PySem.W.view RW.prog [92]) hkN obN 12000 names w := by
  intro os
  obtain ⟨s, e, h1⟩ := of_map (run_a w os)
  obtain ⟨s2, e2, h2⟩ := of_map (run_b1 w os)
  obtain ⟨s5, e5, h5⟩ := of_map (run_b2 w os)
  obtain ⟨s3, e3, h3⟩ := of_map (run_c w os)
  obtain ⟨s4, e4, h4⟩ := of_map (run_d w os)
  rw [e] at e2 e3 e4 e5
  obtain rfl := Option.some.inj e2
  obtain rfl := Option.some.inj e3
  obtain rfl := Option.some.inj e4
  obtain rfl := Option.some.inj e5
  have h6 := obs_join h2 h5
  rw [fnL_two] at h6
  rw [e]
  show some (_, _, obN s) = some (true, _, (He5.valA fnL, true, true))
  unfold obN
  rw [h6, h3, h4]
  have h11 := congrArg (fun z => z.1) h1
  have h12 := congrArg (fun z => z.2) h1
  dsimp only at h11 h12
  rw [h11, h12]
theorem factsN {P : Program} {w : World} {K : PySem.W.Frag} {h : Heap} {mg : PySem.Str → Option Value} {f : Addr} (X : K.In h) (G : h.Ns mainGlobals mg) (hfa : mg ("law" : PySem.Str) = some (.ref f)) (c : He5.SaysA [] fnL K) (hf : faB K = true) (hx : exB K = true) :
    ∃ fd : FuncData, (∀ (s : Shared) (v : Value), BindsTo s fd ⟨[v], []⟩ [("_law_script", v)]) ∧ ∀ base : Heap, L2.FnOk P w K mg base C8.CX0 21 f fd ["_law_script"] (sp_l_law K) := by
  have T : Ctx K mg := ctx_of X G c hf hx
  have e := hfa.symm.trans (T.glo "law" (by decide))
  obtain rfl : f = He.ga K "law" := by
    injection e with e
    injection e
  obtain ⟨fd, F⟩ := T.f_l_law
  have b := L2.FunD.bindsA (ps := ["_law_script"]) F fun _ _ _ _ _ _ us hl => match us, hl with | [_], _ => rfl
  refine ⟨fd, fun s v => b s [v] rfl, fun base => ?_⟩
  obtain ⟨fd2, F2, ok⟩ := ok_l_law (P := P) (w := w) (base := base) T
  obtain ⟨_, _, _, _, _, _, _, _, _, _, _, lk, _⟩ := F.ex
  obtain ⟨_, _, _, _, _, _, _, _, _, _, _, lk2, _⟩ := F2.ex
  rw [lk] at lk2
  cases lk2
  exact ok
end N32
open PySem PySem.W PySem.Calls PyProof.Rows
theorem PySem.Challenge.cw_noworsecache_k32_whole_any_lending_keeps_holds : PySem.Challenge.rw_noworsecache_k32_whole_any_lending_keeps.Holds := by
  w_on; o_law
  refine HandSHeadRun.head_any (r := OpenLaw.row PySem.Challenge.rw_noworsecache_k32_whole_any_lending_keeps) (q := view (OpenLaw.row PySem.Challenge.rw_noworsecache_k32_whole_any_lending_keeps).prog [92]) (H := N32.hkN) (ob := N32.obN) (M := 12000) (loose := N32.names) (d := HandSHeadRun.topDef (OpenLaw.row PySem.Challenge.rw_noworsecache_k32_whole_any_lending_keeps).prog 92) (kwd := []) N32.obN_eq
    (by kernel_rfl) (fun s => by kernel_rfl) N32.run_all (by kernel_rfl) (by kernel_rfl) (by kernel_rfl) (by rfl) (by first | assumption | decide +kernel) (by decide +kernel) ⟨rfl, rfl, rfl, rfl, rfl, by decide +kernel⟩ ?hw ?hc
  case hw => w_witness2
  case hc =>
    refine L2.walk_ofE (l := PySem.Challenge.rw_noworsecache_k32_whole_any_lending_keeps) (n := 63) (k := 21) (x := "_law_script") (CX := C8.CX0) rfl (by decide) (by kernel_rfl) ⟨rfl, by decide, by decide⟩ ?F (fun _ _ _ _ z => z)
    intro w mg fa h Y G hmg0
    obtain ⟨K, KX, c, hf, hx⟩ := Y
    have hmg : mg ("law" : PySem.Str) = some (.ref fa) := by
      have e : (HandSHeadRun.topDef (OpenLaw.row PySem.Challenge.rw_noworsecache_k32_whole_any_lending_keeps).prog 92).name = ("law" : PySem.Str) := by kernel_rfl
      rw [← e]
      exact hmg0
    obtain ⟨fd, hb, hF⟩ := N32.factsN (P := (PySem.Challenge.rw_noworsecache_k32_whole_any_lending_keeps).prog) (w := w) KX G hmg c hf hx
    exact ⟨K, fd, N32.sp_l_law K, KX, hb, fun H a ns hl _ hS => ⟨a, ns, rfl, hS, hl, fun _ => rfl⟩, fun base _ _ => hF base⟩
