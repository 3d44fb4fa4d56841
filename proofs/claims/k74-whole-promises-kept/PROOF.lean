import PyProof.Rows.All
import Wide.All
import OpenK.AllK
import Wide.FinOn
import PySem.Challenge.RW_loginstacks_k74_whole_promises_kept
import KE.KStateDown
import Wide.Once
import KE.KWithOwn
import KE.KDictKeyed
import KE.KDictWalk
import KE.KeyNested
import HandS.ForMost
import HandS.ForExc
import HandS.Walk
import HandS.Flow
import HandS.Star
import HandS.Slots
import HandS.SlotsVar
import HandS.OwnEq
import HandS.TupAny
import HandS.DictComp
import HandS.Property
import HandS.CallRecv
import HandS.Lambda
import HandS.EndTab
import HandS.ExcInit
import HandS.ExcField
import HandS.IsInst
import HandS.Set
import HandS.SetKeys
import HandS.Strs
import HandS.TupSets
import HandS.SetBool
import HandS.Deep
import HandS.DeepEq
import HandS.Zip
import HandS.Rev
import HandS.SortOrd
import HandS.SortInts
import HandS.SortKw
import HandS.Conv
import HandS.Style
import HandS.NoneIn
import HandS.Wide
import HandS.WideMore
import HandS.DictTup
import HandS.Defaults
import HandS.Codes
import HandS.Small
import HandS.TryMany
import HandS.Head0
import HandS.Head1
import HandS.Head2
import HandS.HeadEnd
import HandS.HeadHook1
import HandS.HeadHook2
import HandS.HeadHook3
import HandS.HeadNt
import HandS.HeadHook4
import HandS.HeadWalk
import KE.GoesEnum
import PyProof.Rows.SortShellAny
import HandS.SlotsOwn
import PyProof.InstNe
import PyProof.NeKinds
import KE.GoesMore
import KE.KDictZip
import HandS.TupLe
import HandS.BoundDict
import KE.KDictCopyH
import KE.SortData
set_option Elab.async false
set_option linter.all false
set_option maxRecDepth 100000
/-! Lg0 -/
set_option maxHeartbeats 4000000
namespace Lg
open PySem L2
abbrev Rp := V → Hp → Prop
def Mono (R : Rp) : Prop := ∀ (v : V) (B B' : Hp), Same B B' → R v B → R v B'
/-- B: what stays and is told of; H: all. Behind some steps that change at most M -/
structure Gr (M : Addr → Prop) (B H B' H' : Hp) : Prop where
  base : Same B B'
  sub : Same B' H'
  keep : ∀ a o, ¬ M a → H a = some o → H' a = some o
  there : ∀ a o, H a = some o → ∃ o', H' a = some o'
  new : ∀ a o, B a = none → H a = some o → B' a = none
abbrev M0 : Addr → Prop := fun _ => False
/-- what may change stands, and is not told of -/
def MOk (M : Addr → Prop) (B H : Hp) : Prop := ∀ a, M a → B a = none ∧ ∃ o, H a = some o
theorem mok0 {B H : Hp} : MOk M0 B H := fun _ m => m.elim
theorem MOk.go {M N : Addr → Prop} {B H B1 H1 : Hp} (m : MOk M B H) (g : Gr N B H B1 H1) : MOk M B1 H1 := fun a h => by
  obtain ⟨h1, o, h2⟩ := m a h
  exact ⟨g.new a o h1 h2, g.there a o h2⟩
theorem Gr.refl {M : Addr → Prop} {B H : Hp} (h : Same B H) : Gr M B H B H := ⟨.refl _, h, fun _ _ _ e => e, fun _ o e => ⟨o, e⟩, fun _ _ e _ => e⟩
theorem Gr.trans {M : Addr → Prop} {B H B1 H1 B2 H2 : Hp} (m : MOk M B H) (g : Gr M B H B1 H1) (k : Gr M B1 H1 B2 H2) : Gr M B H B2 H2 := by
  refine ⟨g.base.trans k.base, k.sub, fun a o m e => k.keep a o m (g.keep a o m e), fun a o e => ?_, fun a o e1 e2 => ?_⟩
  · obtain ⟨o1, e1⟩ := g.there a o e
    exact k.there a o1 e1
  · obtain ⟨o1, h1⟩ := g.there a o e2
    exact k.new a o1 (g.new a o e1 e2) h1
theorem Gr.weak {M N : Addr → Prop} {B H B1 H1 : Hp} (g : Gr M B H B1 H1) (h : ∀ a, M a → N a) : Gr N B H B1 H1 := ⟨g.base, g.sub, fun a o n e => g.keep a o (fun z => n (h a z)) e, g.there, g.new⟩
theorem Gr.up {N : Addr → Prop} {B H B1 H1 : Hp} (g : Gr M0 B H B1 H1) : Gr N B H B1 H1 := g.weak fun _ z => z.elim
theorem Gr.then0 {B H B1 H1 B2 H2 : Hp} (g : Gr M0 B H B1 H1) (k : Gr M0 B1 H1 B2 H2) : Gr M0 B H B2 H2 := g.trans mok0 k
theorem Gr.same {B H B1 H1 : Hp} (g : Gr M0 B H B1 H1) : Same H H1 := fun a o e => g.keep a o (fun z => z) e
/-- a new object, told of -/
theorem Gr.lay {M : Addr → Prop} {B H : Hp} {p : Addr} {o : HO} (s : Same B H) (h : H p = none) : Gr M B H (upd B p o) (upd H p o) := by
  have hb := s.free h
  refine ⟨fun a u e => ?_, fun a u e => ?_, fun a u _ e => ?_, fun a u e => ?_, fun a u e1 e2 => ?_⟩
  · rw [upd_ne (ne_of_none e hb)]; exact e
  · by_cases q : a = p
    · subst q; rw [upd_same] at e; rw [upd_same]; exact e
    · rw [upd_ne q] at e; rw [upd_ne q]; exact s a u e
  · rw [upd_ne (ne_of_none e h)]; exact e
  · exact ⟨u, by rw [upd_ne (ne_of_none e h)]; exact e⟩
  · rw [upd_ne (ne_of_none e2 h)]; exact e1
/-- a new object, not told of -/
theorem Gr.hid {M : Addr → Prop} {B H : Hp} {p : Addr} {o : HO} (s : Same B H) (h : H p = none) : Gr M B H B (upd H p o) := by
  have hb := s.free h
  refine ⟨.refl _, fun a u e => ?_, fun a u _ e => ?_, fun a u e => ⟨u, ?_⟩, fun a u e1 _ => e1⟩
  · rw [upd_ne (ne_of_none e hb)]; exact s a u e
  · rw [upd_ne (ne_of_none e h)]; exact e
  · rw [upd_ne (ne_of_none e h)]; exact e
/-- a thing not told of has changed: D was new | D may change -/
theorem Gr.mut {M : Addr → Prop} {B H B1 H1 : Hp} {D : Addr} {o : HO} (g : Gr M B H B1 H1) (hb : B1 D = none) (hD : H D = none ∨ M D) : Gr M B H B1 (upd H1 D o) := by
  refine ⟨g.base, fun a u e => ?_, fun a u m e => ?_, fun a u e => ?_, g.new⟩
  · rw [upd_ne (ne_of_none e hb)]; exact g.sub a u e
  · have hne : a ≠ D := by
      rintro rfl
      rcases hD with z | z
      · rw [z] at e; cases e
      · exact m z
    rw [upd_ne hne]; exact g.keep a u m e
  · by_cases q : a = D
    · subst q; exact ⟨o, upd_same⟩
    · rw [upd_ne q]; exact g.there a u e
/-- a thing not told of so far is told of from now on -/
theorem Gr.tell {M : Addr → Prop} {B H B1 H1 : Hp} {D : Addr} {o : HO} (g : Gr M B H B1 H1) (hD : H D = none) (e1 : H1 D = some o) (hb : B1 D = none) : Gr M B H (upd B1 D o) H1 := by
  refine ⟨fun a u e => ?_, fun a u e => ?_, g.keep, g.there, fun a u e1' e2 => ?_⟩
  · have h1 := g.base a u e
    rw [upd_ne (ne_of_none h1 hb)]; exact h1
  · by_cases q : a = D
    · subst q; rw [upd_same] at e; cases e; exact e1
    · rw [upd_ne q] at e; exact g.sub a u e
  · rw [upd_ne (ne_of_none e2 hD)]; exact g.new a u e1' e2
def PairR : List Rp → List V → Hp → Prop
  | [], [], _ => True
  | R :: Rs, v :: vs, B => R v B ∧ PairR Rs vs B
  | _, _, _ => False
theorem PairR.length : ∀ {Rs : List Rp} {vs : List V} {B : Hp}, PairR Rs vs B → Rs.length = vs.length
  | [], [], _, _ => rfl
  | _ :: _, _ :: _, _, h => congrArg Nat.succ (PairR.length h.2)
  | [], _ :: _, _, h => h.elim
  | _ :: _, [], _, h => h.elim
theorem PairR.get : ∀ {Rs : List Rp} {vs : List V} {B : Hp} {i : Nat} {R : Rp}, PairR Rs vs B → Rs[i]? = some R → ∃ v, vs[i]? = some v ∧ R v B
  | R :: _, v :: _, _, 0, _, h, e => by cases e; exact ⟨v, rfl, h.1⟩
  | _ :: Rs, _ :: vs, _, i + 1, R, h, e => PairR.get (Rs := Rs) (vs := vs) (i := i) h.2 (by simpa using e)
  | [], _, _, _, _, _, e => by simp at e
  | _ :: _, [], _, _, _, h, _ => h.elim
theorem PairR.at_ : ∀ {Rs : List Rp} {vs : List V} {B : Hp} {i : Nat} {v : V}, PairR Rs vs B → vs[i]? = some v → ∃ R, Rs[i]? = some R ∧ R v B
  | R :: _, v :: _, _, 0, _, h, e => by cases e; exact ⟨R, rfl, h.1⟩
  | _ :: Rs, _ :: vs, _, i + 1, v, h, e => PairR.at_ (Rs := Rs) (vs := vs) (i := i) h.2 (by simpa using e)
  | _, [], _, _, _, _, e => by simp at e
  | [], _ :: _, _, _, _, h, _ => h.elim
theorem PairR.mono {B B' : Hp} (s : Same B B') : ∀ {Rs : List Rp} {vs : List V}, (∀ R ∈ Rs, Mono R) → PairR Rs vs B → PairR Rs vs B'
  | [], [], _, _ => trivial
  | _ :: _, _ :: _, m, h => ⟨m _ List.mem_cons_self _ _ _ s h.1, PairR.mono s (fun R r => m R (List.mem_cons_of_mem _ r)) h.2⟩
  | [], _ :: _, _, h => h.elim
  | _ :: _, [], _, h => h.elim
theorem PairR.app : ∀ {Rs Ss : List Rp} {vs ws : List V} {B : Hp}, PairR Rs vs B → PairR Ss ws B → PairR (Rs ++ Ss) (vs ++ ws) B
  | [], _, [], _, _, _, k => k
  | _ :: _, _, _ :: _, _, _, h, k => ⟨h.1, PairR.app h.2 k⟩
  | [], _, _ :: _, _, _, h, _ => h.elim
  | _ :: _, _, [], _, _, h, _ => h.elim
theorem PairR.snoc {Rs : List Rp} {vs : List V} {B : Hp} {R : Rp} {v : V} (h : PairR Rs vs B) (k : R v B) : PairR (Rs ++ [R]) (vs ++ [v]) B := h.app ⟨k, trivial⟩
theorem PairR.consts : ∀ (xs : List V) (B : Hp), PairR (xs.map fun x v _ => v = x) xs B
  | [], _ => trivial
  | _ :: xs, B => ⟨rfl, PairR.consts xs B⟩
theorem PairR.of_consts {α : Type} (f : α → V) : ∀ {ds : List α} {vs : List V} {B : Hp}, PairR (ds.map fun d v _ => v = f d) vs B → vs = ds.map f
  | [], [], _, _ => rfl
  | _ :: _, _ :: _, _, h => by rw [List.map_cons, ← PairR.of_consts f h.2, h.1]
  | [], _ :: _, _, h => h.elim
  | _ :: _, [], _, h => h.elim
/-- a list, a tuple, of such -/
def RLst (Rs : List Rp) : Rp := fun v B => ∃ p ys, v = .ref p ∧ B p = some (.lst ys) ∧ PairR Rs ys B
def RTup (K : PySem.W.Frag) (Rs : List Rp) : Rp := fun v B => ∃ p ys, v = .ref p ∧ SqT K B p ys ∧ PairR Rs ys B
def RDic (kvs : List (Key × V)) : Rp := fun v B => ∃ p, v = .ref p ∧ B p = some (.dK kvs)
theorem sqT_same {K : PySem.W.Frag} {B B' : Hp} {a : Addr} {xs : List V} (s : Same B B') (h : SqT K B a xs) : SqT K B' a xs := by
  rcases h with (h | ⟨o, h⟩) | h
  · exact .inl (.inl (s _ _ h))
  · exact .inl (.inr ⟨o, s _ _ h⟩)
  · exact .inr h
theorem mono_v (x : V) : Mono (fun v _ => v = x) := fun _ _ _ _ h => h
theorem mono_lst {Rs : List Rp} (m : ∀ R ∈ Rs, Mono R) : Mono (RLst Rs) := fun _ _ _ s ⟨p, ys, e, h, k⟩ => ⟨p, ys, e, s _ _ h, k.mono s m⟩
theorem mono_tup {K : PySem.W.Frag} {Rs : List Rp} (m : ∀ R ∈ Rs, Mono R) : Mono (RTup K Rs) := fun _ _ _ s ⟨p, ys, e, h, k⟩ => ⟨p, ys, e, sqT_same s h, k.mono s m⟩
theorem mono_dic (kvs : List (Key × V)) : Mono (RDic kvs) := fun _ _ _ s ⟨p, e, h⟩ => ⟨p, e, s _ _ h⟩
theorem mem_map_mono {α : Type} {f : α → Rp} {ds : List α} (m : ∀ d, Mono (f d)) : ∀ R ∈ ds.map f, Mono R := fun R h => by
  obtain ⟨d, _, rfl⟩ := List.mem_map.mp h
  exact m d
def selN (sel : Nat → Option Rp) : Nat → List Rp
  | 0 => []
  | i + 1 => selN sel i ++ (sel i).toList
theorem selN_len (sel : Nat → Option Rp) : ∀ n, (selN sel n).length ≤ n
  | 0 => Nat.le_refl _
  | n + 1 => by
    have h := selN_len sel n
    unfold selN
    rw [List.length_append]
    cases sel n <;> simp <;> omega
theorem selN_mono {sel : Nat → Option Rp} (m : ∀ i R, sel i = some R → Mono R) : ∀ n, ∀ R ∈ selN sel n, Mono R
  | 0, _, h => nomatch h
  | n + 1, R, h => by
    unfold selN at h
    rcases List.mem_append.mp h with h | h
    · exact selN_mono m n R h
    · cases e : sel n with
      | none => rw [e] at h; cases h
      | some R' =>
        rw [e] at h
        have : R = R' := by simpa using h
        subst this
        exact m n _ e
/-- all kept, by a list -/
theorem selN_all (Rs : List Rp) : selN (fun i => Rs[i]?) Rs.length = Rs := by
  have h : ∀ n, n ≤ Rs.length → selN (fun i => Rs[i]?) n = Rs.take n := by
    intro n
    induction n with
    | zero => intro _; rfl
    | succ n ih =>
      intro hn
      unfold selN
      rw [ih (by omega), List.take_succ]
  have := h Rs.length (Nat.le_refl _)
  rw [this, List.take_length]
/-- a filter, by a list -/
theorem selN_filter {α : Type} (ds : List α) (p : α → Bool) (f : α → Rp) : selN (fun i => (ds[i]?).bind fun d => if p d = true then some (f d) else none) ds.length = (ds.filter p).map f := by
  have h : ∀ n, n ≤ ds.length → selN (fun i => (ds[i]?).bind fun d => if p d = true then some (f d) else none) n = ((ds.take n).filter p).map f := by
    intro n
    induction n with
    | zero => intro _; rfl
    | succ n ih =>
      intro hn
      unfold selN
      rw [ih (by omega), List.take_succ, List.filter_append, List.map_append]
      congr 1
      cases e : ds[n]? with
      | none => rfl
      | some d =>
        by_cases q : p d = true
        · simp [q]
        · simp [q]
  have := h ds.length (Nat.le_refl _)
  rw [this, List.take_length]
theorem lc_sel {J : It} {n : Nat} {G : Hp → Prop} {Y : Nat → Hp → V → Hp → Prop} (w : Walk J n G Y) {M : Addr → Prop} {g : TG} {tt : TT} {te : TE} {vs : List Nat} {σ : L2.St} {B1 H1 : Hp} {D : Addr} {Qd : Hp → Prop}
    (sel : Nat → Option Rp) (s1 : Same B1 H1) (hD : H1 D = none) (hM : MOk M B1 H1) (hn : n < sizeLine) (hG : ∀ B H, Gr M B1 H1 B H → G H) (hm : ∀ i R, sel i = some R → Mono R)
    (step : ∀ i x B H H', i < n → Gr M B1 H1 B H → Y i H x H' → ∀ (Ky : V → Hp → Prop) (Kn : Hp → Prop), (∀ R, sel i = some R → ∀ y B2 H2, Gr M B H B2 H2 → R y B2 → Ky y H2) → (sel i = none → ∀ B2 H2, Gr M B H B2 H2 → Kn H2) →
      g x (wipe σ vs) H' fun σ2 H2 => wipe σ2 vs = wipe σ vs ∧ tt σ2 H2 fun b H3 => if b = true then te σ2 H3 Ky else Kn H3)
    (hd : ∀ ys B H, Gr M B1 H1 B H → B D = some (.lst ys) → PairR (selN sel n) ys B → Qd H) :
    ∃ W : Nat → Nat → Hp → Prop, (∃ m, W 0 m (upd H1 D (.lst []))) ∧ ∀ i m H, W i m H →
      (J.stop i H ∧ Qd H) ∨ (J.go i H ∧ ∃ Nx : Hp → Prop, (∀ H', Nx H' → ∃ m', m' < m ∧ W (i + 1) m' H') ∧ ∀ x H', J.yld i H x H' → g x (wipe σ vs) H' fun σ2 H2 => wipe σ2 vs = wipe σ vs ∧ tt σ2 H2 fun b H3 =>
        if b = true then te σ2 H3 fun y H4 => ∃ acc, H4 D = some (.lst acc) ∧ acc.length < sizeLine ∧ Nx (upd H4 D (.lst (acc ++ [y]))) else Nx H3) := by
  have nMD : ¬ M D := fun z => by
    obtain ⟨_, o, e⟩ := hM D z
    rw [hD] at e; cases e
  have hBD : B1 D = none := s1.free hD
  refine lc_it w (fun i H => ∃ B ys, Gr M B1 H1 B H ∧ B D = none ∧ H D = some (.lst ys) ∧ PairR (selN sel i) ys B) ?_ (fun i H _ ⟨B, ys, g, _⟩ => hG B H g) ?_ ?_
  · exact ⟨B1, [], (Gr.refl s1).mut hBD (.inl hD), hBD, upd_same, trivial⟩
  · rintro i x H H' hi ⟨B, ys, g, hB, hH, hP⟩ hy
    have hlen := hP.length
    have hle := selN_len sel i
    refine step i x B H H' hi g hy _ _ (fun R e y B2 H2 g2 hR => ?_) (fun e B2 H2 g2 => ?_)
    · have h2D : H2 D = some (.lst ys) := g2.keep D _ nMD hH
      have hB2 : B2 D = none := g2.new D _ hB hH
      refine ⟨ys, h2D, by omega, B2, ys ++ [y], (Gr.trans hM g g2).mut hB2 (.inl hD), hB2, upd_same, ?_⟩
      unfold selN
      rw [e]
      exact (hP.mono g2.base (selN_mono hm i)).snoc hR
    · refine ⟨B2, ys, Gr.trans hM g g2, g2.new D _ hB hH, g2.keep D _ nMD hH, ?_⟩
      unfold selN
      rw [e]
      show PairR (selN sel i ++ []) ys B2
      rw [List.append_nil]
      exact hP.mono g2.base (selN_mono hm i)
  · rintro H ⟨B, ys, g, hB, hH, hP⟩
    exact hd ys (upd B D (.lst ys)) H (g.tell hD hH hB) upd_same (hP.mono (fun a o e => by rw [upd_ne (ne_of_none e hB)]; exact e) (selN_mono hm n))
end Lg
/-! LgT -/
set_option maxHeartbeats 4000000
namespace Lg
open PySem L2
def top (i : Nat) : Stmt := PySem.Challenge.pw_loginstacks_k74_whole_promises_kept.main.body.getD i (.Pass ⟨0, 0, 0, 0⟩)
def fdOf (K : PySem.W.Frag) (a : Addr) : FuncData := match K.lookup a with
  | some ⟨_, _, .func fd, _⟩ => fd
  | _ => default
/-- a property's getter -/
def gta (K : PySem.W.Frag) (C : Addr) (f : Str) : Addr := match PySem.W.recIn K (He.ma K C f) "property" with
  | some (.ref g :: _) => g
  | _ => 0
abbrev s_PromiseBroken_init : Stmt := inClass (top 12) 0
abbrev a_PromiseBroken_init (K : PySem.W.Frag) : Addr := He.ma K (He.ga K "PromiseBroken") "__init__"
abbrev s_is_number : Stmt := top 33
abbrev a_is_number (K : PySem.W.Frag) : Addr := He.ga K "is_number"
abbrev s_is_word : Stmt := top 34
abbrev a_is_word (K : PySem.W.Frag) : Addr := He.ga K "is_word"
abbrev s_is_action : Stmt := top 35
abbrev a_is_action (K : PySem.W.Frag) : Addr := He.ga K "is_action"
abbrev s_table_of : Stmt := top 36
abbrev a_table_of (K : PySem.W.Frag) : Addr := He.ga K "table_of"
abbrev s_Rule_init : Stmt := inClass (top 37) 0
abbrev a_Rule_init (K : PySem.W.Frag) : Addr := He.ma K (He.ga K "Rule") "__init__"
abbrev s_Rule_module : Stmt := inClass (top 37) 1
abbrev a_Rule_module (K : PySem.W.Frag) : Addr := gta K (He.ga K "Rule") "module"
abbrev s_Rule_control : Stmt := inClass (top 37) 2
abbrev a_Rule_control (K : PySem.W.Frag) : Addr := gta K (He.ga K "Rule") "control"
abbrev s_Rule_eq : Stmt := inClass (top 37) 4
abbrev a_Rule_eq (K : PySem.W.Frag) : Addr := He.ma K (He.ga K "Rule") "__eq__"
abbrev s_Rule_action_for : Stmt := inClass (top 37) 5
abbrev a_Rule_action_for (K : PySem.W.Frag) : Addr := He.ma K (He.ga K "Rule") "action_for"
abbrev s_Stack_init : Stmt := inClass (top 43) 0
abbrev a_Stack_init (K : PySem.W.Frag) : Addr := He.ma K (He.ga K "Stack") "__init__"
abbrev s_Stack_entries : Stmt := inClass (top 43) 1
abbrev a_Stack_entries (K : PySem.W.Frag) : Addr := gta K (He.ga K "Stack") "entries"
abbrev s_Stack_rules : Stmt := inClass (top 43) 2
abbrev a_Stack_rules (K : PySem.W.Frag) : Addr := gta K (He.ga K "Stack") "rules"
abbrev s_Stack_modules : Stmt := inClass (top 43) 3
abbrev a_Stack_modules (K : PySem.W.Frag) : Addr := gta K (He.ga K "Stack") "modules"
abbrev s_Stack_len : Stmt := inClass (top 43) 4
abbrev a_Stack_len (K : PySem.W.Frag) : Addr := He.ma K (He.ga K "Stack") "__len__"
abbrev s_Stack_getitem : Stmt := inClass (top 43) 5
abbrev a_Stack_getitem (K : PySem.W.Frag) : Addr := He.ma K (He.ga K "Stack") "__getitem__"
abbrev s_Stack_iter : Stmt := inClass (top 43) 6
abbrev a_Stack_iter (K : PySem.W.Frag) : Addr := He.ma K (He.ga K "Stack") "__iter__"
abbrev s_Stack_add : Stmt := inClass (top 43) 7
abbrev a_Stack_add (K : PySem.W.Frag) : Addr := He.ma K (He.ga K "Stack") "__add__"
abbrev s_Stack_eq : Stmt := inClass (top 43) 8
abbrev a_Stack_eq (K : PySem.W.Frag) : Addr := He.ma K (He.ga K "Stack") "__eq__"
abbrev s_Stack_spliced : Stmt := inClass (top 43) 10
abbrev a_Stack_spliced (K : PySem.W.Frag) : Addr := He.ma K (He.ga K "Stack") "spliced"
abbrev s_steps_of : Stmt := top 44
abbrev a_steps_of (K : PySem.W.Frag) : Addr := He.ga K "steps_of"
abbrev s_firsts_of : Stmt := top 45
abbrev a_firsts_of (K : PySem.W.Frag) : Addr := He.ga K "firsts_of"
abbrev s_Run_init : Stmt := inClass (top 51) 0
abbrev a_Run_init (K : PySem.W.Frag) : Addr := He.ma K (He.ga K "Run") "__init__"
abbrev s_Run_ended : Stmt := inClass (top 51) 1
abbrev a_Run_ended (K : PySem.W.Frag) : Addr := He.ma K (He.ga K "Run") "ended"
abbrev s_Run_outcome : Stmt := inClass (top 51) 2
abbrev a_Run_outcome (K : PySem.W.Frag) : Addr := He.ma K (He.ga K "Run") "outcome"
abbrev s_marked : Stmt := top 52
abbrev a_marked (K : PySem.W.Frag) : Addr := He.ga K "marked"
abbrev s_need_answers : Stmt := top 53
abbrev a_need_answers (K : PySem.W.Frag) : Addr := He.ga K "need_answers"
abbrev s_all_answers : Stmt := top 55
abbrev a_all_answers (K : PySem.W.Frag) : Addr := He.ga K "all_answers"
abbrev s_outcomes : Stmt := top 56
abbrev a_outcomes (K : PySem.W.Frag) : Addr := He.ga K "outcomes"
abbrev s_agrees : Stmt := top 57
abbrev a_agrees (K : PySem.W.Frag) : Addr := He.ga K "agrees"
abbrev s_both_outcomes : Stmt := top 59
abbrev a_both_outcomes (K : PySem.W.Frag) : Addr := He.ga K "both_outcomes"
abbrev s_need_word : Stmt := top 63
abbrev a_need_word (K : PySem.W.Frag) : Addr := He.ga K "need_word"
abbrev s_fewest_splits : Stmt := top 64
abbrev a_fewest_splits (K : PySem.W.Frag) : Addr := He.ga K "fewest_splits"
abbrev s_Prober_init : Stmt := inClass (top 65) 0
abbrev a_Prober_init (K : PySem.W.Frag) : Addr := He.ma K (He.ga K "Prober") "__init__"
abbrev s_Prober_candidates : Stmt := inClass (top 65) 1
abbrev a_Prober_candidates (K : PySem.W.Frag) : Addr := gta K (He.ga K "Prober") "candidates"
abbrev s_Prober_history : Stmt := inClass (top 65) 2
abbrev a_Prober_history (K : PySem.W.Frag) : Addr := gta K (He.ga K "Prober") "history"
abbrev s_Prober_run : Stmt := inClass (top 65) 4
abbrev a_Prober_run (K : PySem.W.Frag) : Addr := He.ma K (He.ga K "Prober") "run"
abbrev s_Prober_kinds : Stmt := inClass (top 65) 5
abbrev a_Prober_kinds (K : PySem.W.Frag) : Addr := He.ma K (He.ga K "Prober") "kinds"
abbrev s_Prober_fewest_runs : Stmt := inClass (top 65) 7
abbrev a_Prober_fewest_runs (K : PySem.W.Frag) : Addr := He.ma K (He.ga K "Prober") "fewest_runs"
abbrev s_where_all : Stmt := top 68
abbrev a_where_all (K : PySem.W.Frag) : Addr := He.ga K "where_all"
abbrev s_is_operation : Stmt := top 71
abbrev a_is_operation (K : PySem.W.Frag) : Addr := He.ga K "is_operation"
abbrev s_with_control : Stmt := top 72
abbrev a_with_control (K : PySem.W.Frag) : Addr := He.ga K "with_control"
abbrev s_State_init : Stmt := inClass (top 73) 1
abbrev a_State_init (K : PySem.W.Frag) : Addr := He.ma K (He.ga K "State") "__init__"
abbrev s_State_kept : Stmt := inClass (top 73) 2
abbrev a_State_kept (K : PySem.W.Frag) : Addr := He.ma K (He.ga K "State") "kept"
abbrev s_State_copied : Stmt := inClass (top 73) 3
abbrev a_State_copied (K : PySem.W.Frag) : Addr := He.ma K (He.ga K "State") "copied"
abbrev s_State_go_on : Stmt := inClass (top 73) 4
abbrev a_State_go_on (K : PySem.W.Frag) : Addr := He.ma K (He.ga K "State") "go_on"
abbrev s_State_go_back : Stmt := inClass (top 73) 5
abbrev a_State_go_back (K : PySem.W.Frag) : Addr := He.ma K (He.ga K "State") "go_back"
abbrev s_State_go_again : Stmt := inClass (top 73) 6
abbrev a_State_go_again (K : PySem.W.Frag) : Addr := He.ma K (He.ga K "State") "go_again"
abbrev s_copied : Stmt := top 74
abbrev a_copied (K : PySem.W.Frag) : Addr := He.ga K "copied"
abbrev s_Register_init : Stmt := inClass (top 75) 0
abbrev a_Register_init (K : PySem.W.Frag) : Addr := He.ma K (He.ga K "Register") "__init__"
abbrev s_Register_stored : Stmt := inClass (top 75) 2
abbrev a_Register_stored (K : PySem.W.Frag) : Addr := gta K (He.ga K "Register") "stored"
abbrev s_Register_promises : Stmt := inClass (top 75) 3
abbrev a_Register_promises (K : PySem.W.Frag) : Addr := gta K (He.ga K "Register") "promises"
abbrev s_Register_history : Stmt := inClass (top 75) 4
abbrev a_Register_history (K : PySem.W.Frag) : Addr := gta K (He.ga K "Register") "history"
abbrev s_Register_stack : Stmt := inClass (top 75) 5
abbrev a_Register_stack (K : PySem.W.Frag) : Addr := He.ma K (He.ga K "Register") "stack"
abbrev s_Register_enter : Stmt := inClass (top 75) 6
abbrev a_Register_enter (K : PySem.W.Frag) : Addr := He.ma K (He.ga K "Register") "enter"
abbrev s_Register_edit : Stmt := inClass (top 75) 7
abbrev a_Register_edit (K : PySem.W.Frag) : Addr := He.ma K (He.ga K "Register") "edit"
abbrev s_Register_need_entries : Stmt := inClass (top 75) 8
abbrev a_Register_need_entries (K : PySem.W.Frag) : Addr := He.ma K (He.ga K "Register") "need_entries"
abbrev s_Register_put : Stmt := inClass (top 75) 9
abbrev a_Register_put (K : PySem.W.Frag) : Addr := He.ma K (He.ga K "Register") "put"
abbrev s_Register_take : Stmt := inClass (top 75) 10
abbrev a_Register_take (K : PySem.W.Frag) : Addr := He.ma K (He.ga K "Register") "take"
abbrev s_Register_swap : Stmt := inClass (top 75) 11
abbrev a_Register_swap (K : PySem.W.Frag) : Addr := He.ma K (He.ga K "Register") "swap"
abbrev s_Register_turn : Stmt := inClass (top 75) 12
abbrev a_Register_turn (K : PySem.W.Frag) : Addr := He.ma K (He.ga K "Register") "turn"
abbrev s_Register_promise : Stmt := inClass (top 75) 13
abbrev a_Register_promise (K : PySem.W.Frag) : Addr := He.ma K (He.ga K "Register") "promise"
abbrev s_Register_store : Stmt := inClass (top 75) 14
abbrev a_Register_store (K : PySem.W.Frag) : Addr := He.ma K (He.ga K "Register") "store"
abbrev s_Register_go : Stmt := inClass (top 75) 15
abbrev a_Register_go (K : PySem.W.Frag) : Addr := He.ma K (He.ga K "Register") "go"
abbrev s_Register_undo : Stmt := inClass (top 75) 16
abbrev a_Register_undo (K : PySem.W.Frag) : Addr := He.ma K (He.ga K "Register") "undo"
abbrev s_Register_redo : Stmt := inClass (top 75) 17
abbrev a_Register_redo (K : PySem.W.Frag) : Addr := He.ma K (He.ga K "Register") "redo"
abbrev s_Register_execute : Stmt := inClass (top 75) 18
abbrev a_Register_execute (K : PySem.W.Frag) : Addr := He.ma K (He.ga K "Register") "execute"
abbrev s_Register_apply_all : Stmt := inClass (top 75) 19
abbrev a_Register_apply_all (K : PySem.W.Frag) : Addr := He.ma K (He.ga K "Register") "apply_all"
abbrev s_Register_tried : Stmt := inClass (top 75) 20
abbrev a_Register_tried (K : PySem.W.Frag) : Addr := He.ma K (He.ga K "Register") "tried"
abbrev s_Trial_init : Stmt := inClass (top 76) 0
abbrev a_Trial_init (K : PySem.W.Frag) : Addr := He.ma K (He.ga K "Trial") "__init__"
abbrev s_Trial_hold : Stmt := inClass (top 76) 1
abbrev a_Trial_hold (K : PySem.W.Frag) : Addr := He.ma K (He.ga K "Trial") "hold"
abbrev s_Trial_enter : Stmt := inClass (top 76) 2
abbrev a_Trial_enter (K : PySem.W.Frag) : Addr := He.ma K (He.ga K "Trial") "__enter__"
abbrev s_Trial_exit : Stmt := inClass (top 76) 3
abbrev a_Trial_exit (K : PySem.W.Frag) : Addr := He.ma K (He.ga K "Trial") "__exit__"
abbrev s_w_taken : Stmt := top 78
abbrev a_w_taken (K : PySem.W.Frag) : Addr := He.ga K "_law_taken"
abbrev s_w_pick : Stmt := top 79
abbrev a_w_pick (K : PySem.W.Frag) : Addr := He.ga K "_law_pick"
abbrev s_w_table : Stmt := top 80
abbrev a_w_table (K : PySem.W.Frag) : Addr := He.ga K "_law_table"
abbrev s_w_plain : Stmt := top 81
abbrev a_w_plain (K : PySem.W.Frag) : Addr := He.ga K "_law_plain"
abbrev s_w_rules : Stmt := top 82
abbrev a_w_rules (K : PySem.W.Frag) : Addr := He.ga K "_law_rules"
abbrev s_w_modules : Stmt := top 83
abbrev a_w_modules (K : PySem.W.Frag) : Addr := He.ga K "_law_modules"
abbrev s_w_made : Stmt := top 84
abbrev a_w_made (K : PySem.W.Frag) : Addr := He.ga K "_law_made"
abbrev s_w_all : Stmt := top 85
abbrev a_w_all (K : PySem.W.Frag) : Addr := He.ga K "_law_all"
abbrev s_w_acted : Stmt := top 86
abbrev a_w_acted (K : PySem.W.Frag) : Addr := He.ga K "_law_acted"
abbrev s_w_ran : Stmt := top 87
abbrev a_w_ran (K : PySem.W.Frag) : Addr := He.ga K "_law_ran"
abbrev s_w_run : Stmt := top 88
abbrev a_w_run (K : PySem.W.Frag) : Addr := He.ga K "_law_run"
abbrev s_w_where : Stmt := top 89
abbrev a_w_where (K : PySem.W.Frag) : Addr := He.ga K "_law_where"
abbrev s_w_rows : Stmt := top 90
abbrev a_w_rows (K : PySem.W.Frag) : Addr := He.ga K "_law_rows"
abbrev s_w_agree : Stmt := top 91
abbrev a_w_agree (K : PySem.W.Frag) : Addr := He.ga K "_law_agree"
abbrev s_w_settled : Stmt := top 92
abbrev a_w_settled (K : PySem.W.Frag) : Addr := He.ga K "_law_settled"
abbrev s_w_known : Stmt := top 93
abbrev a_w_known (K : PySem.W.Frag) : Addr := He.ga K "_law_known"
abbrev s_w_broken : Stmt := top 94
abbrev a_w_broken (K : PySem.W.Frag) : Addr := He.ga K "_law_broken"
abbrev s_w_index : Stmt := top 95
abbrev a_w_index (K : PySem.W.Frag) : Addr := He.ga K "_law_index"
abbrev s_w_eight : Stmt := top 96
abbrev a_w_eight (K : PySem.W.Frag) : Addr := He.ga K "_law_eight"
abbrev s_w_promised : Stmt := top 97
abbrev a_w_promised (K : PySem.W.Frag) : Addr := He.ga K "_law_promised"
abbrev s_w_tried : Stmt := top 98
abbrev a_w_tried (K : PySem.W.Frag) : Addr := He.ga K "_law_tried"
abbrev s_law : Stmt := top 99
abbrev a_law (K : PySem.W.Frag) : Addr := He.ga K "law"
abbrev c_StackError (K : PySem.W.Frag) : Addr := He.ga K "StackError"
abbrev c_InvalidRule (K : PySem.W.Frag) : Addr := He.ga K "InvalidRule"
abbrev c_InvalidStack (K : PySem.W.Frag) : Addr := He.ga K "InvalidStack"
abbrev c_InvalidAnswers (K : PySem.W.Frag) : Addr := He.ga K "InvalidAnswers"
abbrev c_InvalidPlace (K : PySem.W.Frag) : Addr := He.ga K "InvalidPlace"
abbrev c_UnknownRule (K : PySem.W.Frag) : Addr := He.ga K "UnknownRule"
abbrev c_TooMany (K : PySem.W.Frag) : Addr := He.ga K "TooMany"
abbrev c_InvalidOwn (K : PySem.W.Frag) : Addr := He.ga K "InvalidOwn"
abbrev c_InvalidWord (K : PySem.W.Frag) : Addr := He.ga K "InvalidWord"
abbrev c_Contradiction (K : PySem.W.Frag) : Addr := He.ga K "Contradiction"
abbrev c_PromiseBroken (K : PySem.W.Frag) : Addr := He.ga K "PromiseBroken"
abbrev c_InvalidName (K : PySem.W.Frag) : Addr := He.ga K "InvalidName"
abbrev c_UnknownName (K : PySem.W.Frag) : Addr := He.ga K "UnknownName"
abbrev c_InvalidOperation (K : PySem.W.Frag) : Addr := He.ga K "InvalidOperation"
abbrev c_Rule (K : PySem.W.Frag) : Addr := He.ga K "Rule"
abbrev c_Stack (K : PySem.W.Frag) : Addr := He.ga K "Stack"
abbrev c_Run (K : PySem.W.Frag) : Addr := He.ga K "Run"
abbrev c_Prober (K : PySem.W.Frag) : Addr := He.ga K "Prober"
abbrev c_State (K : PySem.W.Frag) : Addr := He.ga K "State"
abbrev c_Register (K : PySem.W.Frag) : Addr := He.ga K "Register"
abbrev c_Trial (K : PySem.W.Frag) : Addr := He.ga K "Trial"
/-- a fact of the top -/
def tdB (K : PySem.W.Frag) (x : Str) : Bool := match K.lookup (He.ga K x) with
  | some ⟨.type c, none, _, _⟩ => decide (c = "tuple")
  | _ => false
theorem tdB_ok {K : PySem.W.Frag} {x : Str} (h : tdB K x = true) : ∃ o, K.lookup (He.ga K x) = some o ∧ o.cls = .type "tuple" ∧ o.dict = none := by
  unfold tdB at h
  cases q : K.lookup (He.ga K x) with
  | none => rw [q] at h; cases h
  | some o =>
    obtain ⟨oc, od, dt, osl⟩ := o
    rw [q] at h
    cases oc with
    | type c =>
      cases od with
      | none => exact ⟨_, rfl, by rw [of_decide_eq_true h], rfl⟩
      | some d => cases h
    | _ => cases h
def oexB (K : PySem.W.Frag) (C : Addr) : Bool := match K.lookup C with
  | some ⟨.type "type", _, .cls cd, sl⟩ => (match cd.mro, sl.toList with
    | .ref C' :: bm, [_, _, _, _, some (.builtin n), _] => C' == C && n == "ValueError.__new__" && !cd.hasDel && cd.hasDict && PySem.HandSPX.refsVE bm
    | _, _ => false)
  | _ => false
theorem oexB_ok {K : PySem.W.Frag} {C : Addr} (q : oexB K C = true) : ∃ nm q N bs bm sn sub ab col dd k0 k1 k2 k3 k5, K.lookup C = some (excClassObj nm q C N bs bm true sn sub ab col dd k0 k1 k2 k3 k5 "ValueError.__new__") ∧ PySem.HandSPX.refsVE bm = true := by
  unfold oexB at q
  split at q
  · rename_i dd cd sl ho
    split at q
    · rename_i C' bm k0 k1 k2 k3 n k5 hm hs
      simp only [Bool.and_eq_true, beq_iff_eq, Bool.not_eq_true'] at q
      obtain ⟨⟨⟨⟨rfl, rfl⟩, hdel⟩, hd1⟩, ht⟩ := q
      obtain ⟨nm, bs, mro, ns, qn, hd, sn, sub, ab, col, del⟩ := cd
      dsimp only at hm hdel hd1
      subst hm hdel hd1
      have hsl : sl = #[k0, k1, k2, k3, some (.builtin "ValueError.__new__"), k5] := by
        obtain ⟨l⟩ := sl
        simp only at hs
        rw [hs]
      subst hsl
      exact ⟨nm, qn, ns, bs, bm, sn, sub, ab, col, dd, k0, k1, k2, k3, k5, ho, ht⟩
    · cases q
  · cases q
def veB (K : PySem.W.Frag) (C : Addr) : Bool := match PySem.W.findCls K (.ref C) (.type "type") "__init__" with
  | some (.val (.builtin n)) => n == "ValueError.__init__"
  | _ => false
theorem veB_ok {K : PySem.W.Frag} {C : Addr} (q : veB K C = true) : PySem.W.findCls K (.ref C) (.type "type") "__init__" = some (.val (.builtin "ValueError.__init__")) := by
  unfold veB at q
  split at q
  · rename_i n h
    rw [beq_iff_eq] at q
    rw [h, q]
  · cases q
/-- a written dict's int at a text -/
def szB (K : PySem.W.Frag) (d z : Str) (n : Int) : Bool := match PySem.W.nsIn K (He.ga K d) z with
  | some (some (.int k _)) => decide (k = n)
  | _ => false
theorem szB_ok {K : PySem.W.Frag} {d z : Str} {n : Int} (q : szB K d z n = true) : ∃ t, PySem.W.nsIn K (He.ga K d) z = some (some (.int n t)) := by
  unfold szB at q
  split at q
  · rename_i k t h
    have e : k = n := of_decide_eq_true q
    exact ⟨t, by rw [h, e]⟩
  · cases q
inductive Fc where
  | he (a : He.Fa)
  | tup (x : Str) (vs : List He.Dv)
  | prop (C f : Str)
  | scls (C : Str)
  | slot (C f : Str) (i : Nat)
  | eqs (C m : Str)
  | raw (b : PySem.W.Frag → Bool)
def slAd (K : PySem.W.Frag) (C f : Str) : Addr := He.ma K (He.ga K C) f
def Fc.ok (K : PySem.W.Frag) : Fc → Bool
  | .he a => a.ok K
  | .tup x vs => He.tupB K x vs && decide (PySem.W.nsIn K mainGlobals x = some (some (.ref (He.ga K x))))
  | .prop C f => He.eqO (PySem.W.findIn K (.ref (He.ga K C)) f) (some (some (.ref (He.ma K (He.ga K C) f)))) && (He.eqO (PySem.W.specialIn K (.ref (He.ma K (He.ga K C) f)) "__get__") (some (some (.builtin "property.__get__"))) && (decide (PySem.W.takesIn K (.ref (He.ma K (He.ga K C) f)) = some true) &&
      (match PySem.W.recIn K (He.ma K (He.ga K C) f) "property" with
      | some (.ref _ :: _) => true
      | _ => false)))
  | .scls C => PySem.W.plainGet K (He.ga K C) Str.empty && (PySem.W.isClsIn K (He.ga K C) && (PySem.W.plainOver K (He.ga K C) && He.eqO (PySem.W.findIn K (.ref (He.ga K C)) "__setattr__") (some (some (.builtin "object.__setattr__")))))
  | .slot C f i => He.eqO (PySem.W.findIn K (.ref (He.ga K C)) f) (some (some (.ref (slAd K C f)))) && (He.eqO (PySem.W.specialIn K (.ref (slAd K C f)) "__get__") (some (some (.builtin "member_descriptor.__get__"))) && (decide (PySem.W.takesIn K (.ref (slAd K C f)) = some true) &&
      (decide (PySem.W.typeIn K (.ref (slAd K C f)) = some (.type "member_descriptor")) && (decide (PySem.W.slotIn K (slAd K C f) (He.ga K C) = some i) && decide (i < 1000)))))
  | .eqs C m => He.eqO (PySem.W.findIn K (.ref (He.ga K C)) m) (some (some (.ref (He.ma K (He.ga K C) m)))) && PySem.W.isFn K (.ref (He.ma K (He.ga K C) m))
  | .raw b => b K
structure Fd where
  at_ : PySem.W.Frag → Addr
  name : Str
  qual : Str
  st : Stmt
def Fd.defA (d : Fd) : He5.DefA := ⟨d.at_, d.name, d.qual, defArgs d.st, defBody d.st, defScope d.st, [], []⟩
def d_PromiseBroken_init : Fd := ⟨fun K => a_PromiseBroken_init K, "__init__", "PromiseBroken.__init__", s_PromiseBroken_init⟩
def d_is_number : Fd := ⟨fun K => a_is_number K, "is_number", "is_number", s_is_number⟩
def d_is_word : Fd := ⟨fun K => a_is_word K, "is_word", "is_word", s_is_word⟩
def d_is_action : Fd := ⟨fun K => a_is_action K, "is_action", "is_action", s_is_action⟩
def d_table_of : Fd := ⟨fun K => a_table_of K, "table_of", "table_of", s_table_of⟩
def d_Rule_init : Fd := ⟨fun K => a_Rule_init K, "__init__", "Rule.__init__", s_Rule_init⟩
def d_Rule_module : Fd := ⟨fun K => a_Rule_module K, "module", "Rule.module", s_Rule_module⟩
def d_Rule_control : Fd := ⟨fun K => a_Rule_control K, "control", "Rule.control", s_Rule_control⟩
def d_Rule_eq : Fd := ⟨fun K => a_Rule_eq K, "__eq__", "Rule.__eq__", s_Rule_eq⟩
def d_Rule_action_for : Fd := ⟨fun K => a_Rule_action_for K, "action_for", "Rule.action_for", s_Rule_action_for⟩
def d_Stack_init : Fd := ⟨fun K => a_Stack_init K, "__init__", "Stack.__init__", s_Stack_init⟩
def d_Stack_entries : Fd := ⟨fun K => a_Stack_entries K, "entries", "Stack.entries", s_Stack_entries⟩
def d_Stack_rules : Fd := ⟨fun K => a_Stack_rules K, "rules", "Stack.rules", s_Stack_rules⟩
def d_Stack_modules : Fd := ⟨fun K => a_Stack_modules K, "modules", "Stack.modules", s_Stack_modules⟩
def d_Stack_len : Fd := ⟨fun K => a_Stack_len K, "__len__", "Stack.__len__", s_Stack_len⟩
def d_Stack_getitem : Fd := ⟨fun K => a_Stack_getitem K, "__getitem__", "Stack.__getitem__", s_Stack_getitem⟩
def d_Stack_iter : Fd := ⟨fun K => a_Stack_iter K, "__iter__", "Stack.__iter__", s_Stack_iter⟩
def d_Stack_add : Fd := ⟨fun K => a_Stack_add K, "__add__", "Stack.__add__", s_Stack_add⟩
def d_Stack_eq : Fd := ⟨fun K => a_Stack_eq K, "__eq__", "Stack.__eq__", s_Stack_eq⟩
def d_Stack_spliced : Fd := ⟨fun K => a_Stack_spliced K, "spliced", "Stack.spliced", s_Stack_spliced⟩
def d_steps_of : Fd := ⟨fun K => a_steps_of K, "steps_of", "steps_of", s_steps_of⟩
def d_firsts_of : Fd := ⟨fun K => a_firsts_of K, "firsts_of", "firsts_of", s_firsts_of⟩
def d_Run_init : Fd := ⟨fun K => a_Run_init K, "__init__", "Run.__init__", s_Run_init⟩
def d_Run_ended : Fd := ⟨fun K => a_Run_ended K, "ended", "Run.ended", s_Run_ended⟩
def d_Run_outcome : Fd := ⟨fun K => a_Run_outcome K, "outcome", "Run.outcome", s_Run_outcome⟩
def d_marked : Fd := ⟨fun K => a_marked K, "marked", "marked", s_marked⟩
def d_need_answers : Fd := ⟨fun K => a_need_answers K, "need_answers", "need_answers", s_need_answers⟩
def d_all_answers : Fd := ⟨fun K => a_all_answers K, "all_answers", "all_answers", s_all_answers⟩
def d_outcomes : Fd := ⟨fun K => a_outcomes K, "outcomes", "outcomes", s_outcomes⟩
def d_agrees : Fd := ⟨fun K => a_agrees K, "agrees", "agrees", s_agrees⟩
def d_both_outcomes : Fd := ⟨fun K => a_both_outcomes K, "both_outcomes", "both_outcomes", s_both_outcomes⟩
def d_need_word : Fd := ⟨fun K => a_need_word K, "need_word", "need_word", s_need_word⟩
def d_fewest_splits : Fd := ⟨fun K => a_fewest_splits K, "fewest_splits", "fewest_splits", s_fewest_splits⟩
def d_Prober_init : Fd := ⟨fun K => a_Prober_init K, "__init__", "Prober.__init__", s_Prober_init⟩
def d_Prober_candidates : Fd := ⟨fun K => a_Prober_candidates K, "candidates", "Prober.candidates", s_Prober_candidates⟩
def d_Prober_history : Fd := ⟨fun K => a_Prober_history K, "history", "Prober.history", s_Prober_history⟩
def d_Prober_run : Fd := ⟨fun K => a_Prober_run K, "run", "Prober.run", s_Prober_run⟩
def d_Prober_kinds : Fd := ⟨fun K => a_Prober_kinds K, "kinds", "Prober.kinds", s_Prober_kinds⟩
def d_Prober_fewest_runs : Fd := ⟨fun K => a_Prober_fewest_runs K, "fewest_runs", "Prober.fewest_runs", s_Prober_fewest_runs⟩
def d_where_all : Fd := ⟨fun K => a_where_all K, "where_all", "where_all", s_where_all⟩
def d_is_operation : Fd := ⟨fun K => a_is_operation K, "is_operation", "is_operation", s_is_operation⟩
def d_with_control : Fd := ⟨fun K => a_with_control K, "with_control", "with_control", s_with_control⟩
def d_State_init : Fd := ⟨fun K => a_State_init K, "__init__", "State.__init__", s_State_init⟩
def d_State_kept : Fd := ⟨fun K => a_State_kept K, "kept", "State.kept", s_State_kept⟩
def d_State_copied : Fd := ⟨fun K => a_State_copied K, "copied", "State.copied", s_State_copied⟩
def d_State_go_on : Fd := ⟨fun K => a_State_go_on K, "go_on", "State.go_on", s_State_go_on⟩
def d_State_go_back : Fd := ⟨fun K => a_State_go_back K, "go_back", "State.go_back", s_State_go_back⟩
def d_State_go_again : Fd := ⟨fun K => a_State_go_again K, "go_again", "State.go_again", s_State_go_again⟩
def d_copied : Fd := ⟨fun K => a_copied K, "copied", "copied", s_copied⟩
def d_Register_init : Fd := ⟨fun K => a_Register_init K, "__init__", "Register.__init__", s_Register_init⟩
def d_Register_stored : Fd := ⟨fun K => a_Register_stored K, "stored", "Register.stored", s_Register_stored⟩
def d_Register_promises : Fd := ⟨fun K => a_Register_promises K, "promises", "Register.promises", s_Register_promises⟩
def d_Register_history : Fd := ⟨fun K => a_Register_history K, "history", "Register.history", s_Register_history⟩
def d_Register_stack : Fd := ⟨fun K => a_Register_stack K, "stack", "Register.stack", s_Register_stack⟩
def d_Register_enter : Fd := ⟨fun K => a_Register_enter K, "enter", "Register.enter", s_Register_enter⟩
def d_Register_edit : Fd := ⟨fun K => a_Register_edit K, "edit", "Register.edit", s_Register_edit⟩
def d_Register_need_entries : Fd := ⟨fun K => a_Register_need_entries K, "need_entries", "Register.need_entries", s_Register_need_entries⟩
def d_Register_put : Fd := ⟨fun K => a_Register_put K, "put", "Register.put", s_Register_put⟩
def d_Register_take : Fd := ⟨fun K => a_Register_take K, "take", "Register.take", s_Register_take⟩
def d_Register_swap : Fd := ⟨fun K => a_Register_swap K, "swap", "Register.swap", s_Register_swap⟩
def d_Register_turn : Fd := ⟨fun K => a_Register_turn K, "turn", "Register.turn", s_Register_turn⟩
def d_Register_promise : Fd := ⟨fun K => a_Register_promise K, "promise", "Register.promise", s_Register_promise⟩
def d_Register_store : Fd := ⟨fun K => a_Register_store K, "store", "Register.store", s_Register_store⟩
def d_Register_go : Fd := ⟨fun K => a_Register_go K, "go", "Register.go", s_Register_go⟩
def d_Register_undo : Fd := ⟨fun K => a_Register_undo K, "undo", "Register.undo", s_Register_undo⟩
def d_Register_redo : Fd := ⟨fun K => a_Register_redo K, "redo", "Register.redo", s_Register_redo⟩
def d_Register_execute : Fd := ⟨fun K => a_Register_execute K, "execute", "Register.execute", s_Register_execute⟩
def d_Register_apply_all : Fd := ⟨fun K => a_Register_apply_all K, "apply_all", "Register.apply_all", s_Register_apply_all⟩
def d_Register_tried : Fd := ⟨fun K => a_Register_tried K, "tried", "Register.tried", s_Register_tried⟩
def d_Trial_init : Fd := ⟨fun K => a_Trial_init K, "__init__", "Trial.__init__", s_Trial_init⟩
def d_Trial_hold : Fd := ⟨fun K => a_Trial_hold K, "hold", "Trial.hold", s_Trial_hold⟩
def d_Trial_enter : Fd := ⟨fun K => a_Trial_enter K, "__enter__", "Trial.__enter__", s_Trial_enter⟩
def d_Trial_exit : Fd := ⟨fun K => a_Trial_exit K, "__exit__", "Trial.__exit__", s_Trial_exit⟩
def d_w_taken : Fd := ⟨fun K => a_w_taken K, "_law_taken", "_law_taken", s_w_taken⟩
def d_w_pick : Fd := ⟨fun K => a_w_pick K, "_law_pick", "_law_pick", s_w_pick⟩
def d_w_table : Fd := ⟨fun K => a_w_table K, "_law_table", "_law_table", s_w_table⟩
def d_w_plain : Fd := ⟨fun K => a_w_plain K, "_law_plain", "_law_plain", s_w_plain⟩
def d_w_rules : Fd := ⟨fun K => a_w_rules K, "_law_rules", "_law_rules", s_w_rules⟩
def d_w_modules : Fd := ⟨fun K => a_w_modules K, "_law_modules", "_law_modules", s_w_modules⟩
def d_w_made : Fd := ⟨fun K => a_w_made K, "_law_made", "_law_made", s_w_made⟩
def d_w_all : Fd := ⟨fun K => a_w_all K, "_law_all", "_law_all", s_w_all⟩
def d_w_acted : Fd := ⟨fun K => a_w_acted K, "_law_acted", "_law_acted", s_w_acted⟩
def d_w_ran : Fd := ⟨fun K => a_w_ran K, "_law_ran", "_law_ran", s_w_ran⟩
def d_w_run : Fd := ⟨fun K => a_w_run K, "_law_run", "_law_run", s_w_run⟩
def d_w_where : Fd := ⟨fun K => a_w_where K, "_law_where", "_law_where", s_w_where⟩
def d_w_rows : Fd := ⟨fun K => a_w_rows K, "_law_rows", "_law_rows", s_w_rows⟩
def d_w_agree : Fd := ⟨fun K => a_w_agree K, "_law_agree", "_law_agree", s_w_agree⟩
def d_w_settled : Fd := ⟨fun K => a_w_settled K, "_law_settled", "_law_settled", s_w_settled⟩
def d_w_known : Fd := ⟨fun K => a_w_known K, "_law_known", "_law_known", s_w_known⟩
def d_w_broken : Fd := ⟨fun K => a_w_broken K, "_law_broken", "_law_broken", s_w_broken⟩
def d_w_index : Fd := ⟨fun K => a_w_index K, "_law_index", "_law_index", s_w_index⟩
def d_w_eight : Fd := ⟨fun K => a_w_eight K, "_law_eight", "_law_eight", s_w_eight⟩
def d_w_promised : Fd := ⟨fun K => a_w_promised K, "_law_promised", "_law_promised", s_w_promised⟩
def d_w_tried : Fd := ⟨fun K => a_w_tried K, "_law_tried", "_law_tried", s_w_tried⟩
def d_law : Fd := ⟨fun K => a_law K, "law", "law", s_law⟩
def fl0 : List Fc := [.he (.glo "StackError"), .he (.glo "InvalidRule"), .he (.glo "InvalidStack"), .he (.glo "InvalidAnswers"), .he (.glo "InvalidPlace"), .he (.glo "UnknownRule"), .he (.glo "TooMany"), .he (.glo "InvalidOwn"), .he (.glo "InvalidWord"), .he (.glo "Contradiction"), .he (.glo "PromiseBroken"), .he (.glo "InvalidName"), .he (.glo "UnknownName"), .he (.glo "InvalidOperation"), .he (.glo "RESULTS"), .he (.glo "ACTIONS"), .he (.glo "KINDS"), .he (.glo "is_number"), .he (.glo "is_word"), .he (.glo "is_action")]
def fl1 : List Fc := [.he (.glo "table_of"), .he (.glo "Rule"), .he (.glo "Stack"), .he (.glo "steps_of"), .he (.glo "firsts_of"), .he (.glo "NONE"), .he (.glo "GOOD"), .he (.glo "Run"), .he (.glo "marked"), .he (.glo "need_answers"), .he (.glo "all_answers"), .he (.glo "outcomes"), .he (.glo "agrees"), .he (.glo "both_outcomes"), .he (.glo "need_word"), .he (.glo "fewest_splits"), .he (.glo "Prober"), .he (.glo "where_all"), .he (.glo "SIZES"), .he (.glo "is_operation")]
def fl2 : List Fc := [.he (.glo "with_control"), .he (.glo "State"), .he (.glo "copied"), .he (.glo "Register"), .he (.glo "Trial"), .he (.glo "_law_taken"), .he (.glo "_law_pick"), .he (.glo "_law_table"), .he (.glo "_law_plain"), .he (.glo "_law_rules"), .he (.glo "_law_modules"), .he (.glo "_law_made"), .he (.glo "_law_all"), .he (.glo "_law_acted"), .he (.glo "_law_ran"), .he (.glo "_law_run"), .he (.glo "_law_where"), .he (.glo "_law_rows"), .he (.glo "_law_agree"), .he (.glo "_law_settled")]
def fl3 : List Fc := [.he (.glo "_law_known"), .he (.glo "_law_broken"), .he (.glo "_law_index"), .he (.glo "_law_eight"), .he (.glo "_law_promised"), .he (.glo "_law_tried"), .he (.glo "law"), .he (.int "MOST_JUMP" 9), .he (.int "MOST_LETTERS" 8), .he (.int "MOST_ENTRIES" 12), .he (.int "MOST_RULES" 12), .he (.int "MOST_MODULES" 6), .he (.int "MOST_DEPTH" 3), .he (.int "MOST_OWN" 3), .he (.int "MOST_KINDS" 8), .he (.str "YES" "yes"), .he (.str "NO" "no"), .he (.str "SKIP" "skip"), .he (.str "GONE" "gone"), .he (.str "OK" "ok")]
def fl4 : List Fc := [.he (.str "BAD" "bad"), .he (.str "DIE" "die"), .he (.str "DONE" "done"), .he (.str "IGNORE" "ignore"), .he (.str "RESET" "reset"), .he (.str "LETTERS" "abcdefghijklmnopqrstuvwxyz"), .he (.str "IN" "in"), .he (.str "OUT" "out"), .he (.str "OPEN" "open"), .tup "RESULTS" [.str "yes", .str "no", .str "skip", .str "gone"], .tup "ACTIONS" [.str "ok", .str "bad", .str "die", .str "done", .str "ignore", .str "reset"], .tup "NONE" [.str "none", .non], .tup "GOOD" [.str "good", .non], .he (.free "isinstance"), .he (.free "int"), .he (.free "bool"), .he (.free "str"), .he (.free "tuple"), .he (.free "list"), .he (.free "dict")]
def fl5 : List Fc := [.he (.free "len"), .he (.free "all"), .he (.free "sorted"), .he (.free "set"), .he (.free "max"), .he (.free "min"), .he (.free "enumerate"), .he (.free "zip"), .he (.free "range"), .he (.free "ValueError"), .he (.cls "Rule"), .he (.mkr "Rule"), .he (.noat "Rule" "asks"), .he (.noat "Rule" "acts"), .he (.cls "Stack"), .he (.mkr "Stack"), .he (.noat "Stack" "parts"), .he (.noat "Stack" "steps"), .he (.noat "Stack" "names"), .he (.noat "Stack" "depth")]
def fl6 : List Fc := [.he (.cls "Run"), .he (.mkr "Run"), .he (.noat "Run" "told"), .he (.noat "Run" "asked_rules"), .he (.noat "Run" "mark"), .he (.cls "Prober"), .he (.mkr "Prober"), .he (.noat "Prober" "own_names"), .he (.noat "Prober" "tried_choices"), .he (.noat "Prober" "left"), .he (.noat "Prober" "facts"), .he (.cls "Register"), .he (.mkr "Register"), .he (.noat "Register" "state"), .he (.cls "Trial"), .he (.mkr "Trial"), .he (.noat "Trial" "tested_desk"), .he (.noat "Trial" "base"), .he (.noat "Trial" "fresh"), .he (.noat "Trial" "chosen")]
def fl7 : List Fc := [.he (.mkr "State"), .scls "State", .slot "State" "noted" 0, .slot "State" "past" 1, .slot "State" "present" 2, .slot "State" "undone" 3, .slot "State" "vows" 4, .he (.meth "Rule" "__init__"), .prop "Rule" "module", .prop "Rule" "control", .he (.meth "Rule" "__eq__"), .he (.meth "Rule" "action_for"), .he (.meth "Stack" "__init__"), .prop "Stack" "entries", .prop "Stack" "rules", .prop "Stack" "modules", .he (.meth "Stack" "__len__"), .he (.meth "Stack" "__getitem__"), .he (.meth "Stack" "__iter__"), .he (.meth "Stack" "__add__")]
def fl8 : List Fc := [.he (.meth "Stack" "__eq__"), .he (.meth "Stack" "spliced"), .he (.meth "Run" "__init__"), .he (.meth "Run" "ended"), .he (.meth "Run" "outcome"), .he (.meth "Prober" "__init__"), .prop "Prober" "candidates", .prop "Prober" "history", .he (.meth "Prober" "run"), .he (.meth "Prober" "kinds"), .he (.meth "Prober" "fewest_runs"), .he (.meth "State" "__init__"), .he (.meth "State" "kept"), .he (.meth "State" "copied"), .he (.meth "State" "go_on"), .he (.meth "State" "go_back"), .he (.meth "State" "go_again"), .he (.meth "Register" "__init__"), .prop "Register" "stored", .prop "Register" "promises"]
def fl9 : List Fc := [.prop "Register" "history", .he (.meth "Register" "stack"), .he (.meth "Register" "enter"), .he (.meth "Register" "edit"), .he (.meth "Register" "need_entries"), .he (.meth "Register" "put"), .he (.meth "Register" "take"), .he (.meth "Register" "swap"), .he (.meth "Register" "turn"), .he (.meth "Register" "promise"), .he (.meth "Register" "store"), .he (.meth "Register" "go"), .he (.meth "Register" "undo"), .he (.meth "Register" "redo"), .he (.meth "Register" "execute"), .he (.meth "Register" "apply_all"), .he (.meth "Register" "tried"), .he (.meth "Trial" "__init__"), .he (.meth "Trial" "hold"), .he (.meth "Trial" "__enter__")]
def fl10 : List Fc := [.he (.meth "Trial" "__exit__"), .he (.keep "PromiseBroken"), .he (.keep "StackError"), .raw fun K => He.eqO (PySem.W.findIn K (.ref (He.ga K "Rule")) "__class__") (some (some (.builtin "object.__class__"))), .raw fun K => decide (PySem.W.mroIn K (He.ga K "Rule") (.type "object") = some true), .raw fun K => He.eqO (PySem.W.findIn K (.ref (He.ga K "Stack")) "__class__") (some (some (.builtin "object.__class__"))), .raw fun K => decide (PySem.W.mroIn K (He.ga K "Stack") (.type "object") = some true), .raw fun K => He.eqO (PySem.W.findIn K (.ref (He.ga K "Run")) "__class__") (some (some (.builtin "object.__class__"))), .raw fun K => decide (PySem.W.mroIn K (He.ga K "Run") (.type "object") = some true), .raw fun K => He.eqO (PySem.W.findIn K (.ref (He.ga K "Prober")) "__class__") (some (some (.builtin "object.__class__"))), .raw fun K => decide (PySem.W.mroIn K (He.ga K "Prober") (.type "object") = some true), .raw fun K => He.eqO (PySem.W.findIn K (.ref (He.ga K "Register")) "__class__") (some (some (.builtin "object.__class__"))), .raw fun K => decide (PySem.W.mroIn K (He.ga K "Register") (.type "object") = some true), .raw fun K => He.eqO (PySem.W.findIn K (.ref (He.ga K "Trial")) "__class__") (some (some (.builtin "object.__class__"))), .raw fun K => decide (PySem.W.mroIn K (He.ga K "Trial") (.type "object") = some true), .raw fun K => He.eqO (PySem.W.specialIn K (.builtin "object.__class__") "__get__") (some (some (.builtin "getset_descriptor.__get__"))), .raw fun K => decide (PySem.W.takesIn K (.builtin "object.__class__") = some true), .raw fun K => decide (PySem.W.kitOne K (.ref (He.ga K "Rule")) (.ref (He.ga K "Stack")) = some false), .raw fun K => decide (PySem.W.kitOne K (.ref (He.ga K "Stack")) (.ref (He.ga K "Stack")) = some true), .raw fun K => decide (PySem.W.kitOne K (.ref (He.ga K "Rule")) (.ref (He.ga K "Rule")) = some true)]
def fl11 : List Fc := [.raw fun K => decide (PySem.W.kitOne K (.ref (He.ga K "Stack")) (.ref (He.ga K "Rule")) = some false), .raw fun K => PySem.W.selfFirst K (He.ga K "Stack"), .raw fun K => He.eqO (PySem.W.findIn K (.ref (He.ga K "Stack")) "__radd__") (some none), .raw fun K => He.eqO (PySem.W.findIn K (.ref (He.ga K "Stack")) "__ne__") (some (some (.builtin "object.__ne__"))), .raw fun K => He.eqO (PySem.W.findIn K (.ref (He.ga K "Stack")) "__bool__") (some none), .raw fun K => PySem.W.keepIn K (.ref (He.ga K "PromiseBroken")), .raw fun K => oexB K (He.ga K "PromiseBroken"), .raw fun K => He.eqO (PySem.W.findIn K (.ref (He.ga K "PromiseBroken")) "__setattr__") (some (some (.builtin "object.__setattr__"))), .raw fun K => He.eqO (PySem.W.findIn K (.ref (He.ga K "PromiseBroken")) "__init__") (some (some (.ref (a_PromiseBroken_init K)))), .raw fun K => He.eqO (PySem.W.findIn K (.ref (He.ga K "PromiseBroken")) "index") (some none), .raw fun K => decide (PySem.W.typeIn K (.ref (a_PromiseBroken_init K)) = some (.type "function")), .raw fun K => decide (PySem.W.subIn K (.ref (He.ga K "PromiseBroken")) (.type "BaseException") = some true), .raw fun K => decide (PySem.W.typeIn K (.ref (He.ga K "PromiseBroken")) = some (.type "type")), .raw fun K => decide (PySem.W.exmOne K (.ref (He.ga K "PromiseBroken")) (.ref (He.ga K "PromiseBroken")) = some true), .raw fun K => xfB K (He.ga K "PromiseBroken"), .raw fun K => He.eqO (PySem.W.specialIn K (.ref (He.ga K "StackError")) "__getattribute__") (some (some (.builtin "type.__getattribute__"))), .raw fun K => PySem.W.readsIn K (He.ga K "StackError") (.type "type"), .raw fun K => veB K (He.ga K "StackError"), .raw fun K => tdB K "RESULTS", .eqs "Rule" "__eq__"]
def fl12 : List Fc := [.eqs "Stack" "__eq__", .eqs "Stack" "__len__", .eqs "Stack" "__add__", .eqs "Trial" "__enter__", .eqs "Trial" "__exit__", .raw fun K => szB K "SIZES" "store" 2]
def faL : List Fc := fl0 ++ fl1 ++ fl2 ++ fl3 ++ fl4 ++ fl5 ++ fl6 ++ fl7 ++ fl8 ++ fl9 ++ fl10 ++ fl11 ++ fl12
def dl0 : List Fd := [d_PromiseBroken_init, d_is_number, d_is_word, d_is_action, d_table_of, d_Rule_init, d_Rule_module, d_Rule_control, d_Rule_eq, d_Rule_action_for, d_Stack_init, d_Stack_entries, d_Stack_rules, d_Stack_modules, d_Stack_len, d_Stack_getitem, d_Stack_iter, d_Stack_add, d_Stack_eq, d_Stack_spliced]
def dl1 : List Fd := [d_steps_of, d_firsts_of, d_Run_init, d_Run_ended, d_Run_outcome, d_marked, d_need_answers, d_all_answers, d_outcomes, d_agrees, d_both_outcomes, d_need_word, d_fewest_splits, d_Prober_init, d_Prober_candidates, d_Prober_history, d_Prober_run, d_Prober_kinds, d_Prober_fewest_runs, d_where_all]
def dl2 : List Fd := [d_is_operation, d_with_control, d_State_init, d_State_kept, d_State_copied, d_State_go_on, d_State_go_back, d_State_go_again, d_copied, d_Register_init, d_Register_stored, d_Register_promises, d_Register_history, d_Register_stack, d_Register_enter, d_Register_edit, d_Register_need_entries, d_Register_put, d_Register_take, d_Register_swap]
def dl3 : List Fd := [d_Register_turn, d_Register_promise, d_Register_store, d_Register_go, d_Register_undo, d_Register_redo, d_Register_execute, d_Register_apply_all, d_Register_tried, d_Trial_init, d_Trial_hold, d_Trial_enter, d_Trial_exit, d_w_taken, d_w_pick, d_w_table, d_w_plain, d_w_rules, d_w_modules, d_w_made]
def dl4 : List Fd := [d_w_all, d_w_acted, d_w_ran, d_w_run, d_w_where, d_w_rows, d_w_agree, d_w_settled, d_w_known, d_w_broken, d_w_index, d_w_eight, d_w_promised, d_w_tried, d_law]
def fnL : List Fd := dl0 ++ dl1 ++ dl2 ++ dl3 ++ dl4
/-- what the top leaves, by K -/
structure Txt (K : PySem.W.Frag) (mg : Str → Option Value) : Prop where
  ns : ∃ h : Heap, K.In h ∧ h.Ns mainGlobals mg
  all : (faL.all fun f => f.ok K) = true
  dfs : (fnL.map fun d => He5.fnA K (d.at_ K)) = fnL.map fun d => d.defA.val
  oks : (fnL.all fun d => d.defA.ok K) = true
section
variable {K : PySem.W.Frag} {mg : Str → Option Value}
theorem Txt.fc (T : Txt K mg) {f : Fc} (i : Nat) (h : faL[i]? = some f) : f.ok K = true := List.all_eq_true.mp T.all f (List.mem_of_getElem? h)
theorem Txt.fa (T : Txt K mg) {f : He.Fa} (i : Nat) (h : faL[i]? = some (.he f)) : f.ok K = true := T.fc i h
theorem Txt.glo (T : Txt K mg) {x : Str} (i : Nat) (h : faL[i]? = some (.he (.glo x))) : mg x = some (.ref (He.ga K x)) := by
  obtain ⟨hp, X, G⟩ := T.ns
  exact He.glo_ok X G (T.fa i h)
theorem Txt.free (T : Txt K mg) {x : Str} (i : Nat) (h : faL[i]? = some (.he (.free x))) : mg x = none := by
  obtain ⟨hp, X, G⟩ := T.ns
  exact He.free_ok X G (T.fa i h)
theorem Txt.int (T : Txt K mg) {x : Str} {v : Int} (i : Nat) (h : faL[i]? = some (.he (.int x v))) : ∃ t, mg x = some (.int v t) := by
  obtain ⟨hp, X, G⟩ := T.ns
  exact He.int_ok X G (T.fa i h)
theorem Txt.str (T : Txt K mg) {x z : Str} (i : Nat) (h : faL[i]? = some (.he (.str x z))) : ∃ t, mg x = some (.str z t) := by
  obtain ⟨hp, X, G⟩ := T.ns
  exact He.str_ok X G (T.fa i h)
theorem Txt.tup (T : Txt K mg) {x : Str} {vs : List He.Dv} (i : Nat) (h : faL[i]? = some (.tup x vs)) (H : Hp) : SqT K H (He.ga K x) (vs.map (He.Dv.v K)) := He.tupB_ok (He.ba (T.fc i h)).1 H
theorem Txt.prop (T : Txt K mg) {C f : Str} (i : Nat) (h : faL[i]? = some (.prop C f)) : PropOf K (He.ga K C) f (He.ma K (He.ga K C) f) (gta K (He.ga K C) f) := by
  obtain ⟨h1, q⟩ := He.ba (T.fc i h)
  obtain ⟨h2, q⟩ := He.ba q
  obtain ⟨h3, q⟩ := He.ba q
  refine ⟨He.eqO_ok h1, He.eqO_ok h2, of_decide_eq_true h3, ?_⟩
  unfold gta
  split at q
  · rename_i g r e
    exact ⟨r, by rw [e]⟩
  · cases q
theorem Txt.scls (T : Txt K mg) {C : Str} (i : Nat) (h : faL[i]? = some (.scls C)) : SlX.SCls K (He.ga K C) := by
  obtain ⟨h1, q⟩ := He.ba (T.fc i h)
  obtain ⟨h2, q⟩ := He.ba q
  obtain ⟨h3, h4⟩ := He.ba q
  exact ⟨h1, h2, h3, He.eqO_ok h4⟩
theorem Txt.slot (T : Txt K mg) {C f : Str} {j : Nat} (i : Nat) (h : faL[i]? = some (.slot C f j)) : SlX.Slot1 K (He.ga K C) f (slAd K C f) j := by
  obtain ⟨h1, q⟩ := He.ba (T.fc i h)
  obtain ⟨h2, q⟩ := He.ba q
  obtain ⟨h3, q⟩ := He.ba q
  obtain ⟨h4, q⟩ := He.ba q
  obtain ⟨h5, h6⟩ := He.ba q
  exact ⟨He.eqO_ok h1, He.eqO_ok h2, of_decide_eq_true h3, of_decide_eq_true h4, of_decide_eq_true h5, of_decide_eq_true h6⟩
theorem Txt.fn (T : Txt K mg) {d : Fd} (i : Nat) (h : fnL[i]? = some d) : L2.Fun K d.name d.qual d.st (d.at_ K) (fdOf K (d.at_ K)) := by
  have c := List.all_eq_true.mp T.oks d (List.mem_of_getElem? h)
  have e2 : (fnL.map fun d => He5.fnA K (d.at_ K))[i]? = (fnL.map fun d => d.defA.val)[i]? := by rw [T.dfs]
  rw [List.getElem?_map, List.getElem?_map, h] at e2
  obtain ⟨fd, F⟩ := He5.DefA.funD (d := d.defA) (Option.some.inj e2) c
  have F1 : L2.Fun K d.name d.qual d.st (d.at_ K) fd := He5.fun_of F
  obtain ⟨oc, od, kV, doc, pm, an, cdv, ct, osl, e, lk, hcd⟩ := F1.ex
  have : fdOf K (d.at_ K) = fd := by
    unfold fdOf
    rw [lk]
  rw [this]
  exact F1
theorem g_StackError (T : Txt K mg) : mg "StackError" = some (.ref (He.ga K "StackError")) := T.glo 0 rfl
theorem g_InvalidRule (T : Txt K mg) : mg "InvalidRule" = some (.ref (He.ga K "InvalidRule")) := T.glo 1 rfl
theorem g_InvalidStack (T : Txt K mg) : mg "InvalidStack" = some (.ref (He.ga K "InvalidStack")) := T.glo 2 rfl
theorem g_InvalidAnswers (T : Txt K mg) : mg "InvalidAnswers" = some (.ref (He.ga K "InvalidAnswers")) := T.glo 3 rfl
theorem g_InvalidPlace (T : Txt K mg) : mg "InvalidPlace" = some (.ref (He.ga K "InvalidPlace")) := T.glo 4 rfl
theorem g_UnknownRule (T : Txt K mg) : mg "UnknownRule" = some (.ref (He.ga K "UnknownRule")) := T.glo 5 rfl
theorem g_TooMany (T : Txt K mg) : mg "TooMany" = some (.ref (He.ga K "TooMany")) := T.glo 6 rfl
theorem g_InvalidOwn (T : Txt K mg) : mg "InvalidOwn" = some (.ref (He.ga K "InvalidOwn")) := T.glo 7 rfl
theorem g_InvalidWord (T : Txt K mg) : mg "InvalidWord" = some (.ref (He.ga K "InvalidWord")) := T.glo 8 rfl
theorem g_Contradiction (T : Txt K mg) : mg "Contradiction" = some (.ref (He.ga K "Contradiction")) := T.glo 9 rfl
theorem g_PromiseBroken (T : Txt K mg) : mg "PromiseBroken" = some (.ref (He.ga K "PromiseBroken")) := T.glo 10 rfl
theorem g_InvalidName (T : Txt K mg) : mg "InvalidName" = some (.ref (He.ga K "InvalidName")) := T.glo 11 rfl
theorem g_UnknownName (T : Txt K mg) : mg "UnknownName" = some (.ref (He.ga K "UnknownName")) := T.glo 12 rfl
theorem g_InvalidOperation (T : Txt K mg) : mg "InvalidOperation" = some (.ref (He.ga K "InvalidOperation")) := T.glo 13 rfl
theorem g_RESULTS (T : Txt K mg) : mg "RESULTS" = some (.ref (He.ga K "RESULTS")) := T.glo 14 rfl
theorem g_ACTIONS (T : Txt K mg) : mg "ACTIONS" = some (.ref (He.ga K "ACTIONS")) := T.glo 15 rfl
theorem g_KINDS (T : Txt K mg) : mg "KINDS" = some (.ref (He.ga K "KINDS")) := T.glo 16 rfl
theorem g_is_number (T : Txt K mg) : mg "is_number" = some (.ref (He.ga K "is_number")) := T.glo 17 rfl
theorem g_is_word (T : Txt K mg) : mg "is_word" = some (.ref (He.ga K "is_word")) := T.glo 18 rfl
theorem g_is_action (T : Txt K mg) : mg "is_action" = some (.ref (He.ga K "is_action")) := T.glo 19 rfl
theorem g_table_of (T : Txt K mg) : mg "table_of" = some (.ref (He.ga K "table_of")) := T.glo 20 rfl
theorem g_Rule (T : Txt K mg) : mg "Rule" = some (.ref (He.ga K "Rule")) := T.glo 21 rfl
theorem g_Stack (T : Txt K mg) : mg "Stack" = some (.ref (He.ga K "Stack")) := T.glo 22 rfl
theorem g_steps_of (T : Txt K mg) : mg "steps_of" = some (.ref (He.ga K "steps_of")) := T.glo 23 rfl
theorem g_firsts_of (T : Txt K mg) : mg "firsts_of" = some (.ref (He.ga K "firsts_of")) := T.glo 24 rfl
theorem g_NONE (T : Txt K mg) : mg "NONE" = some (.ref (He.ga K "NONE")) := T.glo 25 rfl
theorem g_GOOD (T : Txt K mg) : mg "GOOD" = some (.ref (He.ga K "GOOD")) := T.glo 26 rfl
theorem g_Run (T : Txt K mg) : mg "Run" = some (.ref (He.ga K "Run")) := T.glo 27 rfl
theorem g_marked (T : Txt K mg) : mg "marked" = some (.ref (He.ga K "marked")) := T.glo 28 rfl
theorem g_need_answers (T : Txt K mg) : mg "need_answers" = some (.ref (He.ga K "need_answers")) := T.glo 29 rfl
theorem g_all_answers (T : Txt K mg) : mg "all_answers" = some (.ref (He.ga K "all_answers")) := T.glo 30 rfl
theorem g_outcomes (T : Txt K mg) : mg "outcomes" = some (.ref (He.ga K "outcomes")) := T.glo 31 rfl
theorem g_agrees (T : Txt K mg) : mg "agrees" = some (.ref (He.ga K "agrees")) := T.glo 32 rfl
theorem g_both_outcomes (T : Txt K mg) : mg "both_outcomes" = some (.ref (He.ga K "both_outcomes")) := T.glo 33 rfl
theorem g_need_word (T : Txt K mg) : mg "need_word" = some (.ref (He.ga K "need_word")) := T.glo 34 rfl
theorem g_fewest_splits (T : Txt K mg) : mg "fewest_splits" = some (.ref (He.ga K "fewest_splits")) := T.glo 35 rfl
theorem g_Prober (T : Txt K mg) : mg "Prober" = some (.ref (He.ga K "Prober")) := T.glo 36 rfl
theorem g_where_all (T : Txt K mg) : mg "where_all" = some (.ref (He.ga K "where_all")) := T.glo 37 rfl
theorem g_SIZES (T : Txt K mg) : mg "SIZES" = some (.ref (He.ga K "SIZES")) := T.glo 38 rfl
theorem g_is_operation (T : Txt K mg) : mg "is_operation" = some (.ref (He.ga K "is_operation")) := T.glo 39 rfl
theorem g_with_control (T : Txt K mg) : mg "with_control" = some (.ref (He.ga K "with_control")) := T.glo 40 rfl
theorem g_State (T : Txt K mg) : mg "State" = some (.ref (He.ga K "State")) := T.glo 41 rfl
theorem g_copied (T : Txt K mg) : mg "copied" = some (.ref (He.ga K "copied")) := T.glo 42 rfl
theorem g_Register (T : Txt K mg) : mg "Register" = some (.ref (He.ga K "Register")) := T.glo 43 rfl
theorem g_Trial (T : Txt K mg) : mg "Trial" = some (.ref (He.ga K "Trial")) := T.glo 44 rfl
theorem g_w_taken (T : Txt K mg) : mg "_law_taken" = some (.ref (He.ga K "_law_taken")) := T.glo 45 rfl
theorem g_w_pick (T : Txt K mg) : mg "_law_pick" = some (.ref (He.ga K "_law_pick")) := T.glo 46 rfl
theorem g_w_table (T : Txt K mg) : mg "_law_table" = some (.ref (He.ga K "_law_table")) := T.glo 47 rfl
theorem g_w_plain (T : Txt K mg) : mg "_law_plain" = some (.ref (He.ga K "_law_plain")) := T.glo 48 rfl
theorem g_w_rules (T : Txt K mg) : mg "_law_rules" = some (.ref (He.ga K "_law_rules")) := T.glo 49 rfl
theorem g_w_modules (T : Txt K mg) : mg "_law_modules" = some (.ref (He.ga K "_law_modules")) := T.glo 50 rfl
theorem g_w_made (T : Txt K mg) : mg "_law_made" = some (.ref (He.ga K "_law_made")) := T.glo 51 rfl
theorem g_w_all (T : Txt K mg) : mg "_law_all" = some (.ref (He.ga K "_law_all")) := T.glo 52 rfl
theorem g_w_acted (T : Txt K mg) : mg "_law_acted" = some (.ref (He.ga K "_law_acted")) := T.glo 53 rfl
theorem g_w_ran (T : Txt K mg) : mg "_law_ran" = some (.ref (He.ga K "_law_ran")) := T.glo 54 rfl
theorem g_w_run (T : Txt K mg) : mg "_law_run" = some (.ref (He.ga K "_law_run")) := T.glo 55 rfl
theorem g_w_where (T : Txt K mg) : mg "_law_where" = some (.ref (He.ga K "_law_where")) := T.glo 56 rfl
theorem g_w_rows (T : Txt K mg) : mg "_law_rows" = some (.ref (He.ga K "_law_rows")) := T.glo 57 rfl
theorem g_w_agree (T : Txt K mg) : mg "_law_agree" = some (.ref (He.ga K "_law_agree")) := T.glo 58 rfl
theorem g_w_settled (T : Txt K mg) : mg "_law_settled" = some (.ref (He.ga K "_law_settled")) := T.glo 59 rfl
theorem g_w_known (T : Txt K mg) : mg "_law_known" = some (.ref (He.ga K "_law_known")) := T.glo 60 rfl
theorem g_w_broken (T : Txt K mg) : mg "_law_broken" = some (.ref (He.ga K "_law_broken")) := T.glo 61 rfl
theorem g_w_index (T : Txt K mg) : mg "_law_index" = some (.ref (He.ga K "_law_index")) := T.glo 62 rfl
theorem g_w_eight (T : Txt K mg) : mg "_law_eight" = some (.ref (He.ga K "_law_eight")) := T.glo 63 rfl
theorem g_w_promised (T : Txt K mg) : mg "_law_promised" = some (.ref (He.ga K "_law_promised")) := T.glo 64 rfl
theorem g_w_tried (T : Txt K mg) : mg "_law_tried" = some (.ref (He.ga K "_law_tried")) := T.glo 65 rfl
theorem g_law (T : Txt K mg) : mg "law" = some (.ref (He.ga K "law")) := T.glo 66 rfl
theorem g_MOST_JUMP (T : Txt K mg) : ∃ t, mg "MOST_JUMP" = some (.int 9 t) := T.int 67 rfl
theorem g_MOST_LETTERS (T : Txt K mg) : ∃ t, mg "MOST_LETTERS" = some (.int 8 t) := T.int 68 rfl
theorem g_MOST_ENTRIES (T : Txt K mg) : ∃ t, mg "MOST_ENTRIES" = some (.int 12 t) := T.int 69 rfl
theorem g_MOST_RULES (T : Txt K mg) : ∃ t, mg "MOST_RULES" = some (.int 12 t) := T.int 70 rfl
theorem g_MOST_MODULES (T : Txt K mg) : ∃ t, mg "MOST_MODULES" = some (.int 6 t) := T.int 71 rfl
theorem g_MOST_DEPTH (T : Txt K mg) : ∃ t, mg "MOST_DEPTH" = some (.int 3 t) := T.int 72 rfl
theorem g_MOST_OWN (T : Txt K mg) : ∃ t, mg "MOST_OWN" = some (.int 3 t) := T.int 73 rfl
theorem g_MOST_KINDS (T : Txt K mg) : ∃ t, mg "MOST_KINDS" = some (.int 8 t) := T.int 74 rfl
theorem g_YES (T : Txt K mg) : ∃ t, mg "YES" = some (.str "yes" t) := T.str 75 rfl
theorem g_NO (T : Txt K mg) : ∃ t, mg "NO" = some (.str "no" t) := T.str 76 rfl
theorem g_SKIP (T : Txt K mg) : ∃ t, mg "SKIP" = some (.str "skip" t) := T.str 77 rfl
theorem g_GONE (T : Txt K mg) : ∃ t, mg "GONE" = some (.str "gone" t) := T.str 78 rfl
theorem g_OK (T : Txt K mg) : ∃ t, mg "OK" = some (.str "ok" t) := T.str 79 rfl
theorem g_BAD (T : Txt K mg) : ∃ t, mg "BAD" = some (.str "bad" t) := T.str 80 rfl
theorem g_DIE (T : Txt K mg) : ∃ t, mg "DIE" = some (.str "die" t) := T.str 81 rfl
theorem g_DONE (T : Txt K mg) : ∃ t, mg "DONE" = some (.str "done" t) := T.str 82 rfl
theorem g_IGNORE (T : Txt K mg) : ∃ t, mg "IGNORE" = some (.str "ignore" t) := T.str 83 rfl
theorem g_RESET (T : Txt K mg) : ∃ t, mg "RESET" = some (.str "reset" t) := T.str 84 rfl
theorem g_LETTERS (T : Txt K mg) : ∃ t, mg "LETTERS" = some (.str "abcdefghijklmnopqrstuvwxyz" t) := T.str 85 rfl
theorem g_IN (T : Txt K mg) : ∃ t, mg "IN" = some (.str "in" t) := T.str 86 rfl
theorem g_OUT (T : Txt K mg) : ∃ t, mg "OUT" = some (.str "out" t) := T.str 87 rfl
theorem g_OPEN (T : Txt K mg) : ∃ t, mg "OPEN" = some (.str "open" t) := T.str 88 rfl
theorem t_RESULTS (T : Txt K mg) (H : Hp) : SqT K H (He.ga K "RESULTS") [.str "yes", .str "no", .str "skip", .str "gone"] := T.tup 89 rfl H
theorem t_ACTIONS (T : Txt K mg) (H : Hp) : SqT K H (He.ga K "ACTIONS") [.str "ok", .str "bad", .str "die", .str "done", .str "ignore", .str "reset"] := T.tup 90 rfl H
theorem t_NONE (T : Txt K mg) (H : Hp) : SqT K H (He.ga K "NONE") [.str "none", .non] := T.tup 91 rfl H
theorem t_GOOD (T : Txt K mg) (H : Hp) : SqT K H (He.ga K "GOOD") [.str "good", .non] := T.tup 92 rfl H
theorem n_isinstance (T : Txt K mg) : mg "isinstance" = none := T.free 93 rfl
theorem n_int (T : Txt K mg) : mg "int" = none := T.free 94 rfl
theorem n_bool (T : Txt K mg) : mg "bool" = none := T.free 95 rfl
theorem n_str (T : Txt K mg) : mg "str" = none := T.free 96 rfl
theorem n_tuple (T : Txt K mg) : mg "tuple" = none := T.free 97 rfl
theorem n_list (T : Txt K mg) : mg "list" = none := T.free 98 rfl
theorem n_dict (T : Txt K mg) : mg "dict" = none := T.free 99 rfl
theorem n_len (T : Txt K mg) : mg "len" = none := T.free 100 rfl
theorem n_all (T : Txt K mg) : mg "all" = none := T.free 101 rfl
theorem n_sorted (T : Txt K mg) : mg "sorted" = none := T.free 102 rfl
theorem n_set (T : Txt K mg) : mg "set" = none := T.free 103 rfl
theorem n_max (T : Txt K mg) : mg "max" = none := T.free 104 rfl
theorem n_min (T : Txt K mg) : mg "min" = none := T.free 105 rfl
theorem n_enumerate (T : Txt K mg) : mg "enumerate" = none := T.free 106 rfl
theorem n_zip (T : Txt K mg) : mg "zip" = none := T.free 107 rfl
theorem n_range (T : Txt K mg) : mg "range" = none := T.free 108 rfl
theorem n_ValueError (T : Txt K mg) : mg "ValueError" = none := T.free 109 rfl
theorem cl_Rule (T : Txt K mg) : Cls K (c_Rule K) := He.cls_ok (T.fa 110 rfl)
theorem mk_Rule (T : Txt K mg) : Mk K (c_Rule K) (a_Rule_init K) := He.mkr_ok (T.fa 111 rfl)
theorem na_Rule_asks (T : Txt K mg) : NoAttr K (c_Rule K) "asks" := He.noat_ok (T.fa 112 rfl)
theorem na_Rule_acts (T : Txt K mg) : NoAttr K (c_Rule K) "acts" := He.noat_ok (T.fa 113 rfl)
theorem cl_Stack (T : Txt K mg) : Cls K (c_Stack K) := He.cls_ok (T.fa 114 rfl)
theorem mk_Stack (T : Txt K mg) : Mk K (c_Stack K) (a_Stack_init K) := He.mkr_ok (T.fa 115 rfl)
theorem na_Stack_parts (T : Txt K mg) : NoAttr K (c_Stack K) "parts" := He.noat_ok (T.fa 116 rfl)
theorem na_Stack_steps (T : Txt K mg) : NoAttr K (c_Stack K) "steps" := He.noat_ok (T.fa 117 rfl)
theorem na_Stack_names (T : Txt K mg) : NoAttr K (c_Stack K) "names" := He.noat_ok (T.fa 118 rfl)
theorem na_Stack_depth (T : Txt K mg) : NoAttr K (c_Stack K) "depth" := He.noat_ok (T.fa 119 rfl)
theorem cl_Run (T : Txt K mg) : Cls K (c_Run K) := He.cls_ok (T.fa 120 rfl)
theorem mk_Run (T : Txt K mg) : Mk K (c_Run K) (a_Run_init K) := He.mkr_ok (T.fa 121 rfl)
theorem na_Run_told (T : Txt K mg) : NoAttr K (c_Run K) "told" := He.noat_ok (T.fa 122 rfl)
theorem na_Run_asked_rules (T : Txt K mg) : NoAttr K (c_Run K) "asked_rules" := He.noat_ok (T.fa 123 rfl)
theorem na_Run_mark (T : Txt K mg) : NoAttr K (c_Run K) "mark" := He.noat_ok (T.fa 124 rfl)
theorem cl_Prober (T : Txt K mg) : Cls K (c_Prober K) := He.cls_ok (T.fa 125 rfl)
theorem mk_Prober (T : Txt K mg) : Mk K (c_Prober K) (a_Prober_init K) := He.mkr_ok (T.fa 126 rfl)
theorem na_Prober_own_names (T : Txt K mg) : NoAttr K (c_Prober K) "own_names" := He.noat_ok (T.fa 127 rfl)
theorem na_Prober_tried_choices (T : Txt K mg) : NoAttr K (c_Prober K) "tried_choices" := He.noat_ok (T.fa 128 rfl)
theorem na_Prober_left (T : Txt K mg) : NoAttr K (c_Prober K) "left" := He.noat_ok (T.fa 129 rfl)
theorem na_Prober_facts (T : Txt K mg) : NoAttr K (c_Prober K) "facts" := He.noat_ok (T.fa 130 rfl)
theorem cl_Register (T : Txt K mg) : Cls K (c_Register K) := He.cls_ok (T.fa 131 rfl)
theorem mk_Register (T : Txt K mg) : Mk K (c_Register K) (a_Register_init K) := He.mkr_ok (T.fa 132 rfl)
theorem na_Register_state (T : Txt K mg) : NoAttr K (c_Register K) "state" := He.noat_ok (T.fa 133 rfl)
theorem cl_Trial (T : Txt K mg) : Cls K (c_Trial K) := He.cls_ok (T.fa 134 rfl)
theorem mk_Trial (T : Txt K mg) : Mk K (c_Trial K) (a_Trial_init K) := He.mkr_ok (T.fa 135 rfl)
theorem na_Trial_tested_desk (T : Txt K mg) : NoAttr K (c_Trial K) "tested_desk" := He.noat_ok (T.fa 136 rfl)
theorem na_Trial_base (T : Txt K mg) : NoAttr K (c_Trial K) "base" := He.noat_ok (T.fa 137 rfl)
theorem na_Trial_fresh (T : Txt K mg) : NoAttr K (c_Trial K) "fresh" := He.noat_ok (T.fa 138 rfl)
theorem na_Trial_chosen (T : Txt K mg) : NoAttr K (c_Trial K) "chosen" := He.noat_ok (T.fa 139 rfl)
theorem mk_State (T : Txt K mg) : Mk K (c_State K) (a_State_init K) := He.mkr_ok (T.fa 140 rfl)
theorem cl_State (T : Txt K mg) : SlX.SCls K (c_State K) := T.scls 141 rfl
theorem sl_noted (T : Txt K mg) : SlX.Slot1 K (c_State K) "noted" (slAd K "State" "noted") 0 := T.slot 142 rfl
theorem sl_past (T : Txt K mg) : SlX.Slot1 K (c_State K) "past" (slAd K "State" "past") 1 := T.slot 143 rfl
theorem sl_present (T : Txt K mg) : SlX.Slot1 K (c_State K) "present" (slAd K "State" "present") 2 := T.slot 144 rfl
theorem sl_undone (T : Txt K mg) : SlX.Slot1 K (c_State K) "undone" (slAd K "State" "undone") 3 := T.slot 145 rfl
theorem sl_vows (T : Txt K mg) : SlX.Slot1 K (c_State K) "vows" (slAd K "State" "vows") 4 := T.slot 146 rfl
theorem m_Rule_init (T : Txt K mg) : Meth K (c_Rule K) "__init__" (a_Rule_init K) := He.meth_ok (T.fa 147 rfl)
theorem p_Rule_module (T : Txt K mg) : PropOf K (c_Rule K) "module" (He.ma K (c_Rule K) "module") (a_Rule_module K) := T.prop 148 rfl
theorem p_Rule_control (T : Txt K mg) : PropOf K (c_Rule K) "control" (He.ma K (c_Rule K) "control") (a_Rule_control K) := T.prop 149 rfl
theorem m_Rule_eq (T : Txt K mg) : Meth K (c_Rule K) "__eq__" (a_Rule_eq K) := He.meth_ok (T.fa 150 rfl)
theorem m_Rule_action_for (T : Txt K mg) : Meth K (c_Rule K) "action_for" (a_Rule_action_for K) := He.meth_ok (T.fa 151 rfl)
theorem m_Stack_init (T : Txt K mg) : Meth K (c_Stack K) "__init__" (a_Stack_init K) := He.meth_ok (T.fa 152 rfl)
theorem p_Stack_entries (T : Txt K mg) : PropOf K (c_Stack K) "entries" (He.ma K (c_Stack K) "entries") (a_Stack_entries K) := T.prop 153 rfl
theorem p_Stack_rules (T : Txt K mg) : PropOf K (c_Stack K) "rules" (He.ma K (c_Stack K) "rules") (a_Stack_rules K) := T.prop 154 rfl
theorem p_Stack_modules (T : Txt K mg) : PropOf K (c_Stack K) "modules" (He.ma K (c_Stack K) "modules") (a_Stack_modules K) := T.prop 155 rfl
theorem m_Stack_len (T : Txt K mg) : Meth K (c_Stack K) "__len__" (a_Stack_len K) := He.meth_ok (T.fa 156 rfl)
theorem m_Stack_getitem (T : Txt K mg) : Meth K (c_Stack K) "__getitem__" (a_Stack_getitem K) := He.meth_ok (T.fa 157 rfl)
theorem m_Stack_iter (T : Txt K mg) : Meth K (c_Stack K) "__iter__" (a_Stack_iter K) := He.meth_ok (T.fa 158 rfl)
theorem m_Stack_add (T : Txt K mg) : Meth K (c_Stack K) "__add__" (a_Stack_add K) := He.meth_ok (T.fa 159 rfl)
theorem m_Stack_eq (T : Txt K mg) : Meth K (c_Stack K) "__eq__" (a_Stack_eq K) := He.meth_ok (T.fa 160 rfl)
theorem m_Stack_spliced (T : Txt K mg) : Meth K (c_Stack K) "spliced" (a_Stack_spliced K) := He.meth_ok (T.fa 161 rfl)
theorem m_Run_init (T : Txt K mg) : Meth K (c_Run K) "__init__" (a_Run_init K) := He.meth_ok (T.fa 162 rfl)
theorem m_Run_ended (T : Txt K mg) : Meth K (c_Run K) "ended" (a_Run_ended K) := He.meth_ok (T.fa 163 rfl)
theorem m_Run_outcome (T : Txt K mg) : Meth K (c_Run K) "outcome" (a_Run_outcome K) := He.meth_ok (T.fa 164 rfl)
theorem m_Prober_init (T : Txt K mg) : Meth K (c_Prober K) "__init__" (a_Prober_init K) := He.meth_ok (T.fa 165 rfl)
theorem p_Prober_candidates (T : Txt K mg) : PropOf K (c_Prober K) "candidates" (He.ma K (c_Prober K) "candidates") (a_Prober_candidates K) := T.prop 166 rfl
theorem p_Prober_history (T : Txt K mg) : PropOf K (c_Prober K) "history" (He.ma K (c_Prober K) "history") (a_Prober_history K) := T.prop 167 rfl
theorem m_Prober_run (T : Txt K mg) : Meth K (c_Prober K) "run" (a_Prober_run K) := He.meth_ok (T.fa 168 rfl)
theorem m_Prober_kinds (T : Txt K mg) : Meth K (c_Prober K) "kinds" (a_Prober_kinds K) := He.meth_ok (T.fa 169 rfl)
theorem m_Prober_fewest_runs (T : Txt K mg) : Meth K (c_Prober K) "fewest_runs" (a_Prober_fewest_runs K) := He.meth_ok (T.fa 170 rfl)
theorem m_State_init (T : Txt K mg) : Meth K (c_State K) "__init__" (a_State_init K) := He.meth_ok (T.fa 171 rfl)
theorem m_State_kept (T : Txt K mg) : Meth K (c_State K) "kept" (a_State_kept K) := He.meth_ok (T.fa 172 rfl)
theorem m_State_copied (T : Txt K mg) : Meth K (c_State K) "copied" (a_State_copied K) := He.meth_ok (T.fa 173 rfl)
theorem m_State_go_on (T : Txt K mg) : Meth K (c_State K) "go_on" (a_State_go_on K) := He.meth_ok (T.fa 174 rfl)
theorem m_State_go_back (T : Txt K mg) : Meth K (c_State K) "go_back" (a_State_go_back K) := He.meth_ok (T.fa 175 rfl)
theorem m_State_go_again (T : Txt K mg) : Meth K (c_State K) "go_again" (a_State_go_again K) := He.meth_ok (T.fa 176 rfl)
theorem m_Register_init (T : Txt K mg) : Meth K (c_Register K) "__init__" (a_Register_init K) := He.meth_ok (T.fa 177 rfl)
theorem p_Register_stored (T : Txt K mg) : PropOf K (c_Register K) "stored" (He.ma K (c_Register K) "stored") (a_Register_stored K) := T.prop 178 rfl
theorem p_Register_promises (T : Txt K mg) : PropOf K (c_Register K) "promises" (He.ma K (c_Register K) "promises") (a_Register_promises K) := T.prop 179 rfl
theorem p_Register_history (T : Txt K mg) : PropOf K (c_Register K) "history" (He.ma K (c_Register K) "history") (a_Register_history K) := T.prop 180 rfl
theorem m_Register_stack (T : Txt K mg) : Meth K (c_Register K) "stack" (a_Register_stack K) := He.meth_ok (T.fa 181 rfl)
theorem m_Register_enter (T : Txt K mg) : Meth K (c_Register K) "enter" (a_Register_enter K) := He.meth_ok (T.fa 182 rfl)
theorem m_Register_edit (T : Txt K mg) : Meth K (c_Register K) "edit" (a_Register_edit K) := He.meth_ok (T.fa 183 rfl)
theorem m_Register_need_entries (T : Txt K mg) : Meth K (c_Register K) "need_entries" (a_Register_need_entries K) := He.meth_ok (T.fa 184 rfl)
theorem m_Register_put (T : Txt K mg) : Meth K (c_Register K) "put" (a_Register_put K) := He.meth_ok (T.fa 185 rfl)
theorem m_Register_take (T : Txt K mg) : Meth K (c_Register K) "take" (a_Register_take K) := He.meth_ok (T.fa 186 rfl)
theorem m_Register_swap (T : Txt K mg) : Meth K (c_Register K) "swap" (a_Register_swap K) := He.meth_ok (T.fa 187 rfl)
theorem m_Register_turn (T : Txt K mg) : Meth K (c_Register K) "turn" (a_Register_turn K) := He.meth_ok (T.fa 188 rfl)
theorem m_Register_promise (T : Txt K mg) : Meth K (c_Register K) "promise" (a_Register_promise K) := He.meth_ok (T.fa 189 rfl)
theorem m_Register_store (T : Txt K mg) : Meth K (c_Register K) "store" (a_Register_store K) := He.meth_ok (T.fa 190 rfl)
theorem m_Register_go (T : Txt K mg) : Meth K (c_Register K) "go" (a_Register_go K) := He.meth_ok (T.fa 191 rfl)
theorem m_Register_undo (T : Txt K mg) : Meth K (c_Register K) "undo" (a_Register_undo K) := He.meth_ok (T.fa 192 rfl)
theorem m_Register_redo (T : Txt K mg) : Meth K (c_Register K) "redo" (a_Register_redo K) := He.meth_ok (T.fa 193 rfl)
theorem m_Register_execute (T : Txt K mg) : Meth K (c_Register K) "execute" (a_Register_execute K) := He.meth_ok (T.fa 194 rfl)
theorem m_Register_apply_all (T : Txt K mg) : Meth K (c_Register K) "apply_all" (a_Register_apply_all K) := He.meth_ok (T.fa 195 rfl)
theorem m_Register_tried (T : Txt K mg) : Meth K (c_Register K) "tried" (a_Register_tried K) := He.meth_ok (T.fa 196 rfl)
theorem m_Trial_init (T : Txt K mg) : Meth K (c_Trial K) "__init__" (a_Trial_init K) := He.meth_ok (T.fa 197 rfl)
theorem m_Trial_hold (T : Txt K mg) : Meth K (c_Trial K) "hold" (a_Trial_hold K) := He.meth_ok (T.fa 198 rfl)
theorem m_Trial_enter (T : Txt K mg) : Meth K (c_Trial K) "__enter__" (a_Trial_enter K) := He.meth_ok (T.fa 199 rfl)
theorem m_Trial_exit (T : Txt K mg) : Meth K (c_Trial K) "__exit__" (a_Trial_exit K) := He.meth_ok (T.fa 200 rfl)
theorem ic_Rule (T : Txt K mg) : PySem.W.findIn K (.ref (c_Rule K)) "__class__" = some (some (.builtin "object.__class__")) := He.eqO_ok (show He.eqO (PySem.W.findIn K (.ref (He.ga K "Rule")) "__class__") (some (some (.builtin "object.__class__"))) = true from T.fc 203 rfl)
theorem im_Rule (T : Txt K mg) : PySem.W.mroIn K (c_Rule K) (.type "object") = some true := of_decide_eq_true (show decide (PySem.W.mroIn K (He.ga K "Rule") (.type "object") = some true) = true from T.fc 204 rfl)
theorem ic_Stack (T : Txt K mg) : PySem.W.findIn K (.ref (c_Stack K)) "__class__" = some (some (.builtin "object.__class__")) := He.eqO_ok (show He.eqO (PySem.W.findIn K (.ref (He.ga K "Stack")) "__class__") (some (some (.builtin "object.__class__"))) = true from T.fc 205 rfl)
theorem im_Stack (T : Txt K mg) : PySem.W.mroIn K (c_Stack K) (.type "object") = some true := of_decide_eq_true (show decide (PySem.W.mroIn K (He.ga K "Stack") (.type "object") = some true) = true from T.fc 206 rfl)
theorem ic_Run (T : Txt K mg) : PySem.W.findIn K (.ref (c_Run K)) "__class__" = some (some (.builtin "object.__class__")) := He.eqO_ok (show He.eqO (PySem.W.findIn K (.ref (He.ga K "Run")) "__class__") (some (some (.builtin "object.__class__"))) = true from T.fc 207 rfl)
theorem im_Run (T : Txt K mg) : PySem.W.mroIn K (c_Run K) (.type "object") = some true := of_decide_eq_true (show decide (PySem.W.mroIn K (He.ga K "Run") (.type "object") = some true) = true from T.fc 208 rfl)
theorem ic_Prober (T : Txt K mg) : PySem.W.findIn K (.ref (c_Prober K)) "__class__" = some (some (.builtin "object.__class__")) := He.eqO_ok (show He.eqO (PySem.W.findIn K (.ref (He.ga K "Prober")) "__class__") (some (some (.builtin "object.__class__"))) = true from T.fc 209 rfl)
theorem im_Prober (T : Txt K mg) : PySem.W.mroIn K (c_Prober K) (.type "object") = some true := of_decide_eq_true (show decide (PySem.W.mroIn K (He.ga K "Prober") (.type "object") = some true) = true from T.fc 210 rfl)
theorem ic_Register (T : Txt K mg) : PySem.W.findIn K (.ref (c_Register K)) "__class__" = some (some (.builtin "object.__class__")) := He.eqO_ok (show He.eqO (PySem.W.findIn K (.ref (He.ga K "Register")) "__class__") (some (some (.builtin "object.__class__"))) = true from T.fc 211 rfl)
theorem im_Register (T : Txt K mg) : PySem.W.mroIn K (c_Register K) (.type "object") = some true := of_decide_eq_true (show decide (PySem.W.mroIn K (He.ga K "Register") (.type "object") = some true) = true from T.fc 212 rfl)
theorem ic_Trial (T : Txt K mg) : PySem.W.findIn K (.ref (c_Trial K)) "__class__" = some (some (.builtin "object.__class__")) := He.eqO_ok (show He.eqO (PySem.W.findIn K (.ref (He.ga K "Trial")) "__class__") (some (some (.builtin "object.__class__"))) = true from T.fc 213 rfl)
theorem im_Trial (T : Txt K mg) : PySem.W.mroIn K (c_Trial K) (.type "object") = some true := of_decide_eq_true (show decide (PySem.W.mroIn K (He.ga K "Trial") (.type "object") = some true) = true from T.fc 214 rfl)
theorem ig_ (T : Txt K mg) : PySem.W.specialIn K (.builtin "object.__class__") "__get__" = some (some (.builtin "getset_descriptor.__get__")) := He.eqO_ok (show He.eqO (PySem.W.specialIn K (.builtin "object.__class__") "__get__") (some (some (.builtin "getset_descriptor.__get__"))) = true from T.fc 215 rfl)
theorem it_ (T : Txt K mg) : PySem.W.takesIn K (.builtin "object.__class__") = some true := of_decide_eq_true (show decide (PySem.W.takesIn K (.builtin "object.__class__") = some true) = true from T.fc 216 rfl)
theorem io_Rule_Stack (T : Txt K mg) : PySem.W.kitOne K (.ref (c_Rule K)) (.ref (c_Stack K)) = some false := of_decide_eq_true (show decide (PySem.W.kitOne K (.ref (He.ga K "Rule")) (.ref (He.ga K "Stack")) = some false) = true from T.fc 217 rfl)
theorem io_Stack_Stack (T : Txt K mg) : PySem.W.kitOne K (.ref (c_Stack K)) (.ref (c_Stack K)) = some true := of_decide_eq_true (show decide (PySem.W.kitOne K (.ref (He.ga K "Stack")) (.ref (He.ga K "Stack")) = some true) = true from T.fc 218 rfl)
theorem io_Rule_Rule (T : Txt K mg) : PySem.W.kitOne K (.ref (c_Rule K)) (.ref (c_Rule K)) = some true := of_decide_eq_true (show decide (PySem.W.kitOne K (.ref (He.ga K "Rule")) (.ref (He.ga K "Rule")) = some true) = true from T.fc 219 rfl)
theorem io_Stack_Rule (T : Txt K mg) : PySem.W.kitOne K (.ref (c_Stack K)) (.ref (c_Rule K)) = some false := of_decide_eq_true (show decide (PySem.W.kitOne K (.ref (He.ga K "Stack")) (.ref (He.ga K "Rule")) = some false) = true from T.fc 220 rfl)
theorem sf_Stack (T : Txt K mg) : PySem.W.selfFirst K (c_Stack K) = true := id (show PySem.W.selfFirst K (He.ga K "Stack") = true from T.fc 221 rfl)
theorem sn_Stack_radd (T : Txt K mg) : PySem.W.findIn K (.ref (c_Stack K)) "__radd__" = some none := He.eqO_ok (show He.eqO (PySem.W.findIn K (.ref (He.ga K "Stack")) "__radd__") (some none) = true from T.fc 222 rfl)
theorem sn_Stack_ne (T : Txt K mg) : PySem.W.findIn K (.ref (c_Stack K)) "__ne__" = some (some (.builtin "object.__ne__")) := He.eqO_ok (show He.eqO (PySem.W.findIn K (.ref (He.ga K "Stack")) "__ne__") (some (some (.builtin "object.__ne__"))) = true from T.fc 223 rfl)
theorem sn_Stack_bool (T : Txt K mg) : PySem.W.findIn K (.ref (c_Stack K)) "__bool__" = some none := He.eqO_ok (show He.eqO (PySem.W.findIn K (.ref (He.ga K "Stack")) "__bool__") (some none) = true from T.fc 224 rfl)
theorem kk_PromiseBroken (T : Txt K mg) : PySem.W.keepIn K (.ref (c_PromiseBroken K)) = true := id (show PySem.W.keepIn K (.ref (He.ga K "PromiseBroken")) = true from T.fc 225 rfl)
theorem oc_PromiseBroken (T : Txt K mg) : ∃ nm q N bs bm sn sub ab col dd k0 k1 k2 k3 k5, K.lookup (c_PromiseBroken K) = some (excClassObj nm q (c_PromiseBroken K) N bs bm true sn sub ab col dd k0 k1 k2 k3 k5 "ValueError.__new__") ∧ PySem.HandSPX.refsVE bm = true := oexB_ok (show oexB K (He.ga K "PromiseBroken") = true from T.fc 226 rfl)
theorem os_PromiseBroken (T : Txt K mg) : PySem.W.findIn K (.ref (c_PromiseBroken K)) "__setattr__" = some (some (.builtin "object.__setattr__")) := He.eqO_ok (show He.eqO (PySem.W.findIn K (.ref (He.ga K "PromiseBroken")) "__setattr__") (some (some (.builtin "object.__setattr__"))) = true from T.fc 227 rfl)
theorem oi_PromiseBroken (T : Txt K mg) : PySem.W.findIn K (.ref (c_PromiseBroken K)) "__init__" = some (some (.ref (a_PromiseBroken_init K))) := He.eqO_ok (show He.eqO (PySem.W.findIn K (.ref (He.ga K "PromiseBroken")) "__init__") (some (some (.ref (a_PromiseBroken_init K)))) = true from T.fc 228 rfl)
theorem on_PromiseBroken (T : Txt K mg) : PySem.W.findIn K (.ref (c_PromiseBroken K)) "index" = some none := He.eqO_ok (show He.eqO (PySem.W.findIn K (.ref (He.ga K "PromiseBroken")) "index") (some none) = true from T.fc 229 rfl)
theorem oy_PromiseBroken (T : Txt K mg) : PySem.W.typeIn K (.ref (a_PromiseBroken_init K)) = some (.type "function") := of_decide_eq_true (show decide (PySem.W.typeIn K (.ref (a_PromiseBroken_init K)) = some (.type "function")) = true from T.fc 230 rfl)
theorem oe_PromiseBroken (T : Txt K mg) : PySem.W.subIn K (.ref (c_PromiseBroken K)) (.type "BaseException") = some true := of_decide_eq_true (show decide (PySem.W.subIn K (.ref (He.ga K "PromiseBroken")) (.type "BaseException") = some true) = true from T.fc 231 rfl)
theorem ot_PromiseBroken (T : Txt K mg) : PySem.W.typeIn K (.ref (c_PromiseBroken K)) = some (.type "type") := of_decide_eq_true (show decide (PySem.W.typeIn K (.ref (He.ga K "PromiseBroken")) = some (.type "type")) = true from T.fc 232 rfl)
theorem ox_PromiseBroken (T : Txt K mg) : PySem.W.exmOne K (.ref (c_PromiseBroken K)) (.ref (c_PromiseBroken K)) = some true := of_decide_eq_true (show decide (PySem.W.exmOne K (.ref (He.ga K "PromiseBroken")) (.ref (He.ga K "PromiseBroken")) = some true) = true from T.fc 233 rfl)
theorem of_PromiseBroken (T : Txt K mg) : XfC K (c_PromiseBroken K) := xfB_ok (show xfB K (He.ga K "PromiseBroken") = true from T.fc 234 rfl)
theorem sg_StackError (T : Txt K mg) : PySem.W.specialIn K (.ref (c_StackError K)) "__getattribute__" = some (some (.builtin "type.__getattribute__")) := He.eqO_ok (show He.eqO (PySem.W.specialIn K (.ref (He.ga K "StackError")) "__getattribute__") (some (some (.builtin "type.__getattribute__"))) = true from T.fc 235 rfl)
theorem sr_StackError (T : Txt K mg) : PySem.W.readsIn K (c_StackError K) (.type "type") = true := id (show PySem.W.readsIn K (He.ga K "StackError") (.type "type") = true from T.fc 236 rfl)
theorem sv_StackError (T : Txt K mg) : PySem.W.findCls K (.ref (c_StackError K)) (.type "type") "__init__" = some (.val (.builtin "ValueError.__init__")) := veB_ok (show veB K (He.ga K "StackError") = true from T.fc 237 rfl)
theorem td_RESULTS (T : Txt K mg) : ∃ o, K.lookup (He.ga K "RESULTS") = some o ∧ o.cls = .type "tuple" ∧ o.dict = none := tdB_ok (show tdB K "RESULTS" = true from T.fc 238 rfl)
theorem fi_Rule_eq (T : Txt K mg) : PySem.W.findIn K (.ref (c_Rule K)) "__eq__" = some (some (.ref (a_Rule_eq K))) := He.eqO_ok (He.ba (T.fc 239 rfl)).1
theorem fn_Rule_eq (T : Txt K mg) : PySem.W.isFn K (.ref (a_Rule_eq K)) = true := (He.ba (T.fc 239 rfl)).2
theorem fi_Stack_eq (T : Txt K mg) : PySem.W.findIn K (.ref (c_Stack K)) "__eq__" = some (some (.ref (a_Stack_eq K))) := He.eqO_ok (He.ba (T.fc 240 rfl)).1
theorem fn_Stack_eq (T : Txt K mg) : PySem.W.isFn K (.ref (a_Stack_eq K)) = true := (He.ba (T.fc 240 rfl)).2
theorem fi_Stack_len (T : Txt K mg) : PySem.W.findIn K (.ref (c_Stack K)) "__len__" = some (some (.ref (a_Stack_len K))) := He.eqO_ok (He.ba (T.fc 241 rfl)).1
theorem fn_Stack_len (T : Txt K mg) : PySem.W.isFn K (.ref (a_Stack_len K)) = true := (He.ba (T.fc 241 rfl)).2
theorem fi_Stack_add (T : Txt K mg) : PySem.W.findIn K (.ref (c_Stack K)) "__add__" = some (some (.ref (a_Stack_add K))) := He.eqO_ok (He.ba (T.fc 242 rfl)).1
theorem fn_Stack_add (T : Txt K mg) : PySem.W.isFn K (.ref (a_Stack_add K)) = true := (He.ba (T.fc 242 rfl)).2
theorem fi_Trial_enter (T : Txt K mg) : PySem.W.findIn K (.ref (c_Trial K)) "__enter__" = some (some (.ref (a_Trial_enter K))) := He.eqO_ok (He.ba (T.fc 243 rfl)).1
theorem fn_Trial_enter (T : Txt K mg) : PySem.W.isFn K (.ref (a_Trial_enter K)) = true := (He.ba (T.fc 243 rfl)).2
theorem fi_Trial_exit (T : Txt K mg) : PySem.W.findIn K (.ref (c_Trial K)) "__exit__" = some (some (.ref (a_Trial_exit K))) := He.eqO_ok (He.ba (T.fc 244 rfl)).1
theorem fn_Trial_exit (T : Txt K mg) : PySem.W.isFn K (.ref (a_Trial_exit K)) = true := (He.ba (T.fc 244 rfl)).2
theorem sz_store (T : Txt K mg) : ∃ t, PySem.W.nsIn K (He.ga K "SIZES") "store" = some (some (.int 2 t)) := szB_ok (show szB K "SIZES" "store" 2 = true from T.fc 245 rfl)
theorem f_PromiseBroken_init (T : Txt K mg) : L2.Fun K "__init__" "PromiseBroken.__init__" s_PromiseBroken_init (a_PromiseBroken_init K) (fdOf K (a_PromiseBroken_init K)) := T.fn (d := d_PromiseBroken_init) 0 rfl
theorem f_is_number (T : Txt K mg) : L2.Fun K "is_number" "is_number" s_is_number (a_is_number K) (fdOf K (a_is_number K)) := T.fn (d := d_is_number) 1 rfl
theorem f_is_word (T : Txt K mg) : L2.Fun K "is_word" "is_word" s_is_word (a_is_word K) (fdOf K (a_is_word K)) := T.fn (d := d_is_word) 2 rfl
theorem f_is_action (T : Txt K mg) : L2.Fun K "is_action" "is_action" s_is_action (a_is_action K) (fdOf K (a_is_action K)) := T.fn (d := d_is_action) 3 rfl
theorem f_table_of (T : Txt K mg) : L2.Fun K "table_of" "table_of" s_table_of (a_table_of K) (fdOf K (a_table_of K)) := T.fn (d := d_table_of) 4 rfl
theorem f_Rule_init (T : Txt K mg) : L2.Fun K "__init__" "Rule.__init__" s_Rule_init (a_Rule_init K) (fdOf K (a_Rule_init K)) := T.fn (d := d_Rule_init) 5 rfl
theorem f_Rule_module (T : Txt K mg) : L2.Fun K "module" "Rule.module" s_Rule_module (a_Rule_module K) (fdOf K (a_Rule_module K)) := T.fn (d := d_Rule_module) 6 rfl
theorem f_Rule_control (T : Txt K mg) : L2.Fun K "control" "Rule.control" s_Rule_control (a_Rule_control K) (fdOf K (a_Rule_control K)) := T.fn (d := d_Rule_control) 7 rfl
theorem f_Rule_eq (T : Txt K mg) : L2.Fun K "__eq__" "Rule.__eq__" s_Rule_eq (a_Rule_eq K) (fdOf K (a_Rule_eq K)) := T.fn (d := d_Rule_eq) 8 rfl
theorem f_Rule_action_for (T : Txt K mg) : L2.Fun K "action_for" "Rule.action_for" s_Rule_action_for (a_Rule_action_for K) (fdOf K (a_Rule_action_for K)) := T.fn (d := d_Rule_action_for) 9 rfl
theorem f_Stack_init (T : Txt K mg) : L2.Fun K "__init__" "Stack.__init__" s_Stack_init (a_Stack_init K) (fdOf K (a_Stack_init K)) := T.fn (d := d_Stack_init) 10 rfl
theorem f_Stack_entries (T : Txt K mg) : L2.Fun K "entries" "Stack.entries" s_Stack_entries (a_Stack_entries K) (fdOf K (a_Stack_entries K)) := T.fn (d := d_Stack_entries) 11 rfl
theorem f_Stack_rules (T : Txt K mg) : L2.Fun K "rules" "Stack.rules" s_Stack_rules (a_Stack_rules K) (fdOf K (a_Stack_rules K)) := T.fn (d := d_Stack_rules) 12 rfl
theorem f_Stack_modules (T : Txt K mg) : L2.Fun K "modules" "Stack.modules" s_Stack_modules (a_Stack_modules K) (fdOf K (a_Stack_modules K)) := T.fn (d := d_Stack_modules) 13 rfl
theorem f_Stack_len (T : Txt K mg) : L2.Fun K "__len__" "Stack.__len__" s_Stack_len (a_Stack_len K) (fdOf K (a_Stack_len K)) := T.fn (d := d_Stack_len) 14 rfl
theorem f_Stack_getitem (T : Txt K mg) : L2.Fun K "__getitem__" "Stack.__getitem__" s_Stack_getitem (a_Stack_getitem K) (fdOf K (a_Stack_getitem K)) := T.fn (d := d_Stack_getitem) 15 rfl
theorem f_Stack_iter (T : Txt K mg) : L2.Fun K "__iter__" "Stack.__iter__" s_Stack_iter (a_Stack_iter K) (fdOf K (a_Stack_iter K)) := T.fn (d := d_Stack_iter) 16 rfl
theorem f_Stack_add (T : Txt K mg) : L2.Fun K "__add__" "Stack.__add__" s_Stack_add (a_Stack_add K) (fdOf K (a_Stack_add K)) := T.fn (d := d_Stack_add) 17 rfl
theorem f_Stack_eq (T : Txt K mg) : L2.Fun K "__eq__" "Stack.__eq__" s_Stack_eq (a_Stack_eq K) (fdOf K (a_Stack_eq K)) := T.fn (d := d_Stack_eq) 18 rfl
theorem f_Stack_spliced (T : Txt K mg) : L2.Fun K "spliced" "Stack.spliced" s_Stack_spliced (a_Stack_spliced K) (fdOf K (a_Stack_spliced K)) := T.fn (d := d_Stack_spliced) 19 rfl
theorem f_steps_of (T : Txt K mg) : L2.Fun K "steps_of" "steps_of" s_steps_of (a_steps_of K) (fdOf K (a_steps_of K)) := T.fn (d := d_steps_of) 20 rfl
theorem f_firsts_of (T : Txt K mg) : L2.Fun K "firsts_of" "firsts_of" s_firsts_of (a_firsts_of K) (fdOf K (a_firsts_of K)) := T.fn (d := d_firsts_of) 21 rfl
theorem f_Run_init (T : Txt K mg) : L2.Fun K "__init__" "Run.__init__" s_Run_init (a_Run_init K) (fdOf K (a_Run_init K)) := T.fn (d := d_Run_init) 22 rfl
theorem f_Run_ended (T : Txt K mg) : L2.Fun K "ended" "Run.ended" s_Run_ended (a_Run_ended K) (fdOf K (a_Run_ended K)) := T.fn (d := d_Run_ended) 23 rfl
theorem f_Run_outcome (T : Txt K mg) : L2.Fun K "outcome" "Run.outcome" s_Run_outcome (a_Run_outcome K) (fdOf K (a_Run_outcome K)) := T.fn (d := d_Run_outcome) 24 rfl
theorem f_marked (T : Txt K mg) : L2.Fun K "marked" "marked" s_marked (a_marked K) (fdOf K (a_marked K)) := T.fn (d := d_marked) 25 rfl
theorem f_need_answers (T : Txt K mg) : L2.Fun K "need_answers" "need_answers" s_need_answers (a_need_answers K) (fdOf K (a_need_answers K)) := T.fn (d := d_need_answers) 26 rfl
theorem f_all_answers (T : Txt K mg) : L2.Fun K "all_answers" "all_answers" s_all_answers (a_all_answers K) (fdOf K (a_all_answers K)) := T.fn (d := d_all_answers) 27 rfl
theorem f_outcomes (T : Txt K mg) : L2.Fun K "outcomes" "outcomes" s_outcomes (a_outcomes K) (fdOf K (a_outcomes K)) := T.fn (d := d_outcomes) 28 rfl
theorem f_agrees (T : Txt K mg) : L2.Fun K "agrees" "agrees" s_agrees (a_agrees K) (fdOf K (a_agrees K)) := T.fn (d := d_agrees) 29 rfl
theorem f_both_outcomes (T : Txt K mg) : L2.Fun K "both_outcomes" "both_outcomes" s_both_outcomes (a_both_outcomes K) (fdOf K (a_both_outcomes K)) := T.fn (d := d_both_outcomes) 30 rfl
theorem f_need_word (T : Txt K mg) : L2.Fun K "need_word" "need_word" s_need_word (a_need_word K) (fdOf K (a_need_word K)) := T.fn (d := d_need_word) 31 rfl
theorem f_fewest_splits (T : Txt K mg) : L2.Fun K "fewest_splits" "fewest_splits" s_fewest_splits (a_fewest_splits K) (fdOf K (a_fewest_splits K)) := T.fn (d := d_fewest_splits) 32 rfl
theorem f_Prober_init (T : Txt K mg) : L2.Fun K "__init__" "Prober.__init__" s_Prober_init (a_Prober_init K) (fdOf K (a_Prober_init K)) := T.fn (d := d_Prober_init) 33 rfl
theorem f_Prober_candidates (T : Txt K mg) : L2.Fun K "candidates" "Prober.candidates" s_Prober_candidates (a_Prober_candidates K) (fdOf K (a_Prober_candidates K)) := T.fn (d := d_Prober_candidates) 34 rfl
theorem f_Prober_history (T : Txt K mg) : L2.Fun K "history" "Prober.history" s_Prober_history (a_Prober_history K) (fdOf K (a_Prober_history K)) := T.fn (d := d_Prober_history) 35 rfl
theorem f_Prober_run (T : Txt K mg) : L2.Fun K "run" "Prober.run" s_Prober_run (a_Prober_run K) (fdOf K (a_Prober_run K)) := T.fn (d := d_Prober_run) 36 rfl
theorem f_Prober_kinds (T : Txt K mg) : L2.Fun K "kinds" "Prober.kinds" s_Prober_kinds (a_Prober_kinds K) (fdOf K (a_Prober_kinds K)) := T.fn (d := d_Prober_kinds) 37 rfl
theorem f_Prober_fewest_runs (T : Txt K mg) : L2.Fun K "fewest_runs" "Prober.fewest_runs" s_Prober_fewest_runs (a_Prober_fewest_runs K) (fdOf K (a_Prober_fewest_runs K)) := T.fn (d := d_Prober_fewest_runs) 38 rfl
theorem f_where_all (T : Txt K mg) : L2.Fun K "where_all" "where_all" s_where_all (a_where_all K) (fdOf K (a_where_all K)) := T.fn (d := d_where_all) 39 rfl
theorem f_is_operation (T : Txt K mg) : L2.Fun K "is_operation" "is_operation" s_is_operation (a_is_operation K) (fdOf K (a_is_operation K)) := T.fn (d := d_is_operation) 40 rfl
theorem f_with_control (T : Txt K mg) : L2.Fun K "with_control" "with_control" s_with_control (a_with_control K) (fdOf K (a_with_control K)) := T.fn (d := d_with_control) 41 rfl
theorem f_State_init (T : Txt K mg) : L2.Fun K "__init__" "State.__init__" s_State_init (a_State_init K) (fdOf K (a_State_init K)) := T.fn (d := d_State_init) 42 rfl
theorem f_State_kept (T : Txt K mg) : L2.Fun K "kept" "State.kept" s_State_kept (a_State_kept K) (fdOf K (a_State_kept K)) := T.fn (d := d_State_kept) 43 rfl
theorem f_State_copied (T : Txt K mg) : L2.Fun K "copied" "State.copied" s_State_copied (a_State_copied K) (fdOf K (a_State_copied K)) := T.fn (d := d_State_copied) 44 rfl
theorem f_State_go_on (T : Txt K mg) : L2.Fun K "go_on" "State.go_on" s_State_go_on (a_State_go_on K) (fdOf K (a_State_go_on K)) := T.fn (d := d_State_go_on) 45 rfl
theorem f_State_go_back (T : Txt K mg) : L2.Fun K "go_back" "State.go_back" s_State_go_back (a_State_go_back K) (fdOf K (a_State_go_back K)) := T.fn (d := d_State_go_back) 46 rfl
theorem f_State_go_again (T : Txt K mg) : L2.Fun K "go_again" "State.go_again" s_State_go_again (a_State_go_again K) (fdOf K (a_State_go_again K)) := T.fn (d := d_State_go_again) 47 rfl
theorem f_copied (T : Txt K mg) : L2.Fun K "copied" "copied" s_copied (a_copied K) (fdOf K (a_copied K)) := T.fn (d := d_copied) 48 rfl
theorem f_Register_init (T : Txt K mg) : L2.Fun K "__init__" "Register.__init__" s_Register_init (a_Register_init K) (fdOf K (a_Register_init K)) := T.fn (d := d_Register_init) 49 rfl
theorem f_Register_stored (T : Txt K mg) : L2.Fun K "stored" "Register.stored" s_Register_stored (a_Register_stored K) (fdOf K (a_Register_stored K)) := T.fn (d := d_Register_stored) 50 rfl
theorem f_Register_promises (T : Txt K mg) : L2.Fun K "promises" "Register.promises" s_Register_promises (a_Register_promises K) (fdOf K (a_Register_promises K)) := T.fn (d := d_Register_promises) 51 rfl
theorem f_Register_history (T : Txt K mg) : L2.Fun K "history" "Register.history" s_Register_history (a_Register_history K) (fdOf K (a_Register_history K)) := T.fn (d := d_Register_history) 52 rfl
theorem f_Register_stack (T : Txt K mg) : L2.Fun K "stack" "Register.stack" s_Register_stack (a_Register_stack K) (fdOf K (a_Register_stack K)) := T.fn (d := d_Register_stack) 53 rfl
theorem f_Register_enter (T : Txt K mg) : L2.Fun K "enter" "Register.enter" s_Register_enter (a_Register_enter K) (fdOf K (a_Register_enter K)) := T.fn (d := d_Register_enter) 54 rfl
theorem f_Register_edit (T : Txt K mg) : L2.Fun K "edit" "Register.edit" s_Register_edit (a_Register_edit K) (fdOf K (a_Register_edit K)) := T.fn (d := d_Register_edit) 55 rfl
theorem f_Register_need_entries (T : Txt K mg) : L2.Fun K "need_entries" "Register.need_entries" s_Register_need_entries (a_Register_need_entries K) (fdOf K (a_Register_need_entries K)) := T.fn (d := d_Register_need_entries) 56 rfl
theorem f_Register_put (T : Txt K mg) : L2.Fun K "put" "Register.put" s_Register_put (a_Register_put K) (fdOf K (a_Register_put K)) := T.fn (d := d_Register_put) 57 rfl
theorem f_Register_take (T : Txt K mg) : L2.Fun K "take" "Register.take" s_Register_take (a_Register_take K) (fdOf K (a_Register_take K)) := T.fn (d := d_Register_take) 58 rfl
theorem f_Register_swap (T : Txt K mg) : L2.Fun K "swap" "Register.swap" s_Register_swap (a_Register_swap K) (fdOf K (a_Register_swap K)) := T.fn (d := d_Register_swap) 59 rfl
theorem f_Register_turn (T : Txt K mg) : L2.Fun K "turn" "Register.turn" s_Register_turn (a_Register_turn K) (fdOf K (a_Register_turn K)) := T.fn (d := d_Register_turn) 60 rfl
theorem f_Register_promise (T : Txt K mg) : L2.Fun K "promise" "Register.promise" s_Register_promise (a_Register_promise K) (fdOf K (a_Register_promise K)) := T.fn (d := d_Register_promise) 61 rfl
theorem f_Register_store (T : Txt K mg) : L2.Fun K "store" "Register.store" s_Register_store (a_Register_store K) (fdOf K (a_Register_store K)) := T.fn (d := d_Register_store) 62 rfl
theorem f_Register_go (T : Txt K mg) : L2.Fun K "go" "Register.go" s_Register_go (a_Register_go K) (fdOf K (a_Register_go K)) := T.fn (d := d_Register_go) 63 rfl
theorem f_Register_undo (T : Txt K mg) : L2.Fun K "undo" "Register.undo" s_Register_undo (a_Register_undo K) (fdOf K (a_Register_undo K)) := T.fn (d := d_Register_undo) 64 rfl
theorem f_Register_redo (T : Txt K mg) : L2.Fun K "redo" "Register.redo" s_Register_redo (a_Register_redo K) (fdOf K (a_Register_redo K)) := T.fn (d := d_Register_redo) 65 rfl
theorem f_Register_execute (T : Txt K mg) : L2.Fun K "execute" "Register.execute" s_Register_execute (a_Register_execute K) (fdOf K (a_Register_execute K)) := T.fn (d := d_Register_execute) 66 rfl
theorem f_Register_apply_all (T : Txt K mg) : L2.Fun K "apply_all" "Register.apply_all" s_Register_apply_all (a_Register_apply_all K) (fdOf K (a_Register_apply_all K)) := T.fn (d := d_Register_apply_all) 67 rfl
theorem f_Register_tried (T : Txt K mg) : L2.Fun K "tried" "Register.tried" s_Register_tried (a_Register_tried K) (fdOf K (a_Register_tried K)) := T.fn (d := d_Register_tried) 68 rfl
theorem f_Trial_init (T : Txt K mg) : L2.Fun K "__init__" "Trial.__init__" s_Trial_init (a_Trial_init K) (fdOf K (a_Trial_init K)) := T.fn (d := d_Trial_init) 69 rfl
theorem f_Trial_hold (T : Txt K mg) : L2.Fun K "hold" "Trial.hold" s_Trial_hold (a_Trial_hold K) (fdOf K (a_Trial_hold K)) := T.fn (d := d_Trial_hold) 70 rfl
theorem f_Trial_enter (T : Txt K mg) : L2.Fun K "__enter__" "Trial.__enter__" s_Trial_enter (a_Trial_enter K) (fdOf K (a_Trial_enter K)) := T.fn (d := d_Trial_enter) 71 rfl
theorem f_Trial_exit (T : Txt K mg) : L2.Fun K "__exit__" "Trial.__exit__" s_Trial_exit (a_Trial_exit K) (fdOf K (a_Trial_exit K)) := T.fn (d := d_Trial_exit) 72 rfl
theorem f_w_taken (T : Txt K mg) : L2.Fun K "_law_taken" "_law_taken" s_w_taken (a_w_taken K) (fdOf K (a_w_taken K)) := T.fn (d := d_w_taken) 73 rfl
theorem f_w_pick (T : Txt K mg) : L2.Fun K "_law_pick" "_law_pick" s_w_pick (a_w_pick K) (fdOf K (a_w_pick K)) := T.fn (d := d_w_pick) 74 rfl
theorem f_w_table (T : Txt K mg) : L2.Fun K "_law_table" "_law_table" s_w_table (a_w_table K) (fdOf K (a_w_table K)) := T.fn (d := d_w_table) 75 rfl
theorem f_w_plain (T : Txt K mg) : L2.Fun K "_law_plain" "_law_plain" s_w_plain (a_w_plain K) (fdOf K (a_w_plain K)) := T.fn (d := d_w_plain) 76 rfl
theorem f_w_rules (T : Txt K mg) : L2.Fun K "_law_rules" "_law_rules" s_w_rules (a_w_rules K) (fdOf K (a_w_rules K)) := T.fn (d := d_w_rules) 77 rfl
theorem f_w_modules (T : Txt K mg) : L2.Fun K "_law_modules" "_law_modules" s_w_modules (a_w_modules K) (fdOf K (a_w_modules K)) := T.fn (d := d_w_modules) 78 rfl
theorem f_w_made (T : Txt K mg) : L2.Fun K "_law_made" "_law_made" s_w_made (a_w_made K) (fdOf K (a_w_made K)) := T.fn (d := d_w_made) 79 rfl
theorem f_w_all (T : Txt K mg) : L2.Fun K "_law_all" "_law_all" s_w_all (a_w_all K) (fdOf K (a_w_all K)) := T.fn (d := d_w_all) 80 rfl
theorem f_w_acted (T : Txt K mg) : L2.Fun K "_law_acted" "_law_acted" s_w_acted (a_w_acted K) (fdOf K (a_w_acted K)) := T.fn (d := d_w_acted) 81 rfl
theorem f_w_ran (T : Txt K mg) : L2.Fun K "_law_ran" "_law_ran" s_w_ran (a_w_ran K) (fdOf K (a_w_ran K)) := T.fn (d := d_w_ran) 82 rfl
theorem f_w_run (T : Txt K mg) : L2.Fun K "_law_run" "_law_run" s_w_run (a_w_run K) (fdOf K (a_w_run K)) := T.fn (d := d_w_run) 83 rfl
theorem f_w_where (T : Txt K mg) : L2.Fun K "_law_where" "_law_where" s_w_where (a_w_where K) (fdOf K (a_w_where K)) := T.fn (d := d_w_where) 84 rfl
theorem f_w_rows (T : Txt K mg) : L2.Fun K "_law_rows" "_law_rows" s_w_rows (a_w_rows K) (fdOf K (a_w_rows K)) := T.fn (d := d_w_rows) 85 rfl
theorem f_w_agree (T : Txt K mg) : L2.Fun K "_law_agree" "_law_agree" s_w_agree (a_w_agree K) (fdOf K (a_w_agree K)) := T.fn (d := d_w_agree) 86 rfl
theorem f_w_settled (T : Txt K mg) : L2.Fun K "_law_settled" "_law_settled" s_w_settled (a_w_settled K) (fdOf K (a_w_settled K)) := T.fn (d := d_w_settled) 87 rfl
theorem f_w_known (T : Txt K mg) : L2.Fun K "_law_known" "_law_known" s_w_known (a_w_known K) (fdOf K (a_w_known K)) := T.fn (d := d_w_known) 88 rfl
theorem f_w_broken (T : Txt K mg) : L2.Fun K "_law_broken" "_law_broken" s_w_broken (a_w_broken K) (fdOf K (a_w_broken K)) := T.fn (d := d_w_broken) 89 rfl
theorem f_w_index (T : Txt K mg) : L2.Fun K "_law_index" "_law_index" s_w_index (a_w_index K) (fdOf K (a_w_index K)) := T.fn (d := d_w_index) 90 rfl
theorem f_w_eight (T : Txt K mg) : L2.Fun K "_law_eight" "_law_eight" s_w_eight (a_w_eight K) (fdOf K (a_w_eight K)) := T.fn (d := d_w_eight) 91 rfl
theorem f_w_promised (T : Txt K mg) : L2.Fun K "_law_promised" "_law_promised" s_w_promised (a_w_promised K) (fdOf K (a_w_promised K)) := T.fn (d := d_w_promised) 92 rfl
theorem f_w_tried (T : Txt K mg) : L2.Fun K "_law_tried" "_law_tried" s_w_tried (a_w_tried K) (fdOf K (a_w_tried K)) := T.fn (d := d_w_tried) 93 rfl
theorem f_law (T : Txt K mg) : L2.Fun K "law" "law" s_law (a_law K) (fdOf K (a_law K)) := T.fn (d := d_law) 94 rfl
end
end Lg
/-! LgHa -/
set_option maxHeartbeats 0
namespace Lg
open PySem PySem.W PySem.Calls PyProof.Rows
abbrev R : OpenRow := OpenLaw.row PySem.Challenge.rw_loginstacks_k74_whole_promises_kept
abbrev qv : Program := view R.prog [99]
def hn1 : List PySem.Str := (["_wall", "StackError", "InvalidRule", "InvalidStack", "InvalidAnswers", "InvalidPlace", "UnknownRule", "TooMany", "InvalidOwn", "InvalidWord", "Contradiction", "PromiseBroken", "InvalidName", "UnknownName", "InvalidOperation", "YES", "NO", "SKIP", "GONE", "RESULTS", "OK", "BAD", "DIE", "DONE", "IGNORE", "RESET", "ACTIONS", "MOST_JUMP", "KINDS", "LETTERS", "MOST_LETTERS", "is_number", "is_word", "is_action", "table_of", "Rule"] : List String).map PySem.Str.ofString
def hn2 : List PySem.Str := (["MOST_ENTRIES", "MOST_RULES", "MOST_MODULES", "MOST_DEPTH", "Stack", "steps_of", "firsts_of", "IN", "OUT", "NONE", "GOOD", "Run", "marked", "need_answers", "all_answers", "outcomes", "agrees", "both_outcomes", "MOST_OWN", "MOST_KINDS", "need_word", "fewest_splits", "Prober", "OPEN", "where_all", "SIZES", "is_operation", "with_control", "State", "copied", "Register", "Trial"] : List String).map PySem.Str.ofString
def hn3 : List PySem.Str := (["_law_taken", "_law_pick", "_law_table", "_law_plain", "_law_rules", "_law_modules", "_law_made", "_law_all", "_law_acted", "_law_ran", "_law_run", "_law_where", "_law_rows", "_law_agree", "_law_settled", "_law_known", "_law_broken", "_law_index", "_law_eight", "_law_promised", "_law_tried"] : List String).map PySem.Str.ofString
def names : List PySem.Str := hn1 ++ hn2 ++ hn3
abbrev AlF : Type := Bool × List He5.FnW
def obsF (K : PySem.W.Frag) : AlF := ((faL.all fun f => f.ok K) && fnL.all fun d => d.defA.ok K, fnL.map fun d => He5.fnA K (d.at_ K))
def valF : AlF := (true, fnL.map fun d => d.defA.val)
def asK0 : List Addr := ([3, 318, 317, 410, 409, 461, 460, 570, 569, 648, 647, 815, 814, 857, 856, 187, 186, 31, 30, 285, 293, 301, 342, 350, 358, 529, 535, 543, 694, 700, 706, 649, 650, 651, 652, 653, 233, 234, 429, 430] : List Nat)
def asK1 : List Addr := ([21, 246, 251, 258, 263, 421, 428, 472, 479, 484, 489, 494, 499, 506, 511, 579, 587, 594, 662, 868, 875, 880, 887, 894, 899, 906, 911, 918, 925, 932, 939, 944, 949, 954, 959, 964, 971, 978, 985, 992] : List Nat)
def asK2 : List Addr := ([999, 48, 67, 86, 117, 184, 227, 277, 308, 315, 334, 365, 372, 379, 386, 393, 400, 407, 444, 451, 458, 523, 548, 555, 562, 567, 609, 616, 623, 630, 637, 644, 676, 713, 718, 723, 730, 737, 744, 751] : List Nat)
def asK3 : List Addr := ([758, 765, 772, 779, 786, 793, 800, 805, 812, 833, 840, 847, 854, 284, 292, 300, 341, 349, 357, 528, 534, 542, 683, 693, 699, 705, 20, 245, 250, 257, 262, 420, 427, 471, 478, 483, 488, 493, 498, 505] : List Nat)
def asK4 : List Addr := ([510, 578, 586, 593, 661, 867, 874, 879, 886, 893, 898, 905, 910, 917, 924, 931, 938, 943, 948, 953, 958, 963, 970, 977, 984, 991, 998, 47, 66, 85, 116, 183, 226, 276, 307, 314, 333, 364, 371, 378] : List Nat)
def asK5 : List Addr := ([385, 392, 399, 406, 443, 450, 457, 522, 547, 554, 561, 566, 608, 615, 622, 629, 636, 643, 675, 712, 717, 722, 729, 736, 743, 750, 757, 764, 771, 778, 785, 792, 799, 804, 811, 832, 839, 846, 853, 283] : List Nat)
def asK6 : List Addr := ([291, 299, 340, 348, 356, 527, 533, 541, 682, 692, 698, 704, 51, 50, 70, 69, 89, 88, 101, 100, 120, 119, 132, 131, 144, 143, 156, 155, 168, 167, 199, 198, 211, 210, 230, 229, 2, 580] : List Nat)
def asK : List Addr := asK0 ++ asK1 ++ asK2 ++ asK3 ++ asK4 ++ asK5 ++ asK6
def lawP : He.Defn := ("law", none)
def sizeKeys : List PySem.Str := (["put", "take", "swap", "turn", "promise", "store", "go", "undo", "redo"] : List String).map PySem.Str.ofString
def codeB (K : PySem.W.Frag) : Bool := match (fdOf K (a_law K)).code with
  | .ref c => decide (c = (He.cT K lawP).1)
  | _ => false
def lawB (g : Addr → Option Obj) (K : PySem.W.Frag) : Bool := (PySem.W.codeHdIn K (He.cT K lawP).1 (He.cT K lawP).2 && codeB K) && ((K.lookup (He.cT K lawP).2).isNone && (match g (He.cT K lawP).2 with
  | some o => He.emptyTab o
  | none => false))
abbrev AlH : Type := AlF × Option (List (Option (PySem.Str × Int))) × Bool
def obsH (g : Addr → Option Obj) : AlH := (obsF (He.frG g asK), He.dicW (He.frG g asK) (He.ga (He.frG g asK) "SIZES"), lawB g (He.frG g asK))
def valH (w : World) : AlH := (valF, some (He.keysIn w.params sizeKeys), true)
structure SaysH (w : World) (h : Heap) (K : PySem.W.Frag) : Prop where
  f : obsF K = valF
  t : He.dicW K (He.ga K "SIZES") = some (He.keysIn w.params sizeKeys)
  hd : PySem.W.codeHdIn K (He.cT K lawP).1 (He.cT K lawP).2 = true
  e : (fdOf K (a_law K)).code = .ref (He.cT K lawP).1
  out : K.lookup (He.cT K lawP).2 = none
  empty : h.get? (He.cT K lawP).2 = some { cls := .none, data := .fields #[] }
theorem saysH_of {w : World} {h : Heap} (e : obsH h.get? = valH w) : SaysH w h (He.frG h.get? asK) := by
  have e1 : obsF (He.frG h.get? asK) = valF := congrArg (fun z : AlH => z.1) e
  have e2 : He.dicW (He.frG h.get? asK) (He.ga (He.frG h.get? asK) "SIZES") = some (He.keysIn w.params sizeKeys) := congrArg (fun z : AlH => z.2.1) e
  have e3 : lawB h.get? (He.frG h.get? asK) = true := congrArg (fun z : AlH => z.2.2) e
  obtain ⟨h1, h2⟩ := He.ba e3
  obtain ⟨h3, h4⟩ := He.ba h1
  obtain ⟨h5, h6⟩ := He.ba h2
  refine ⟨e1, e2, h3, ?_, Option.isNone_iff_eq_none.mp h5, ?_⟩
  · unfold codeB at h4
    cases q : (fdOf (He.frG h.get? asK) (a_law (He.frG h.get? asK))).code with
    | ref c =>
      rw [q] at h4
      rw [of_decide_eq_true h4]
    | _ => rw [q] at h4; cases h4
  · cases q : h.get? (He.cT (He.frG h.get? asK) lawP).2 with
    | none => rw [q] at h6; cases h6
    | some o =>
      rw [q] at h6
      rw [He.emptyTab_eq h6]
def hk : PySem.W.Hook where
  α := AlH
  obs := fun s => obsH s.heap.get?
  val := valH
  says := fun w h => ∃ K : PySem.W.Frag, K.In h ∧ SaysH w h K
  of := fun _ _ e => ⟨_, He.frG_in, saysH_of e⟩
  keeps := fun _ _ _ ⟨K, hK, c⟩ k => ⟨K, PySem.W.Frag.In.keeps hK k, ⟨c.f, c.t, c.hd, c.e, c.out, k _ _ c.empty⟩⟩
def ob (s : PySem.W.SharedT) : AlH := obsH (HandSHeadRun.getT s)
theorem ob_eq (s : PySem.W.SharedT) : ob s = hk.obs s.abs := by
  have e : HandSHeadRun.getT s = s.abs.heap.get? := funext (HandSHeadRun.getT_eq s)
  unfold ob
  rw [e] <;> rfl
end Lg
/-! LgHr -/
set_option maxHeartbeats 0
namespace Lg
open PySem PySem.W PySem.Calls PyProof.Rows
/-- the facts' truths -/
def obA (s : PySem.W.SharedT) : Bool := (obsF (He.frG (HandSHeadRun.getT s) asK)).1
/-- the functions, SIZES' keys, the law's code -/
def obB (s : PySem.W.SharedT) : List He5.FnW × Option (List (Option (PySem.Str × Int))) × Bool := ((obsF (He.frG (HandSHeadRun.getT s) asK)).2, (ob s).2)
theorem ob_ab (s : PySem.W.SharedT) : ob s = ((obA s, (obB s).1), (obB s).2) := rfl
noncomputable def endH (w : World) (os : OsState) : Option PySem.W.SharedT := HandSHeadRun.endF (HandSHeadRun.stepQ (HandSHeadRun.denQ HandSHeadRun.tabQ) R.prog w) 20000 R.prog w os
noncomputable def looksH (w : World) (s : PySem.W.SharedT) : Bool := HandSHeadRun.looksF R.prog (boot_heap w.params) s.abs
noncomputable def seenH (s : PySem.W.SharedT) := HandSHeadRun.seenQ qv names (importedModules R.prog.main.body) (fun s => xlAt qv [] s && recOk R.toRowW.records s) s.abs
def RunA (w : World) : Prop := ∀ os : OsState, (endH w os).map (fun s => obA s) = some true
def RunB (w : World) : Prop := ∀ os : OsState, (endH w os).map (fun s => (looksH w s, seenH s, obB s)) = some (true, openGood qv names, (valF.2, (valH w).2))
theorem map_ab {S A B C D E : Type} {x : Option S} {f : S → A} {g : S → B × C × D × E} {a : A} {b : B} {c : C} {d : D} {e : E} (h1 : x.map f = some a) (h2 : x.map g = some (b, c, (d, e))) :
    x.map (fun s => ((g s).1, (g s).2.1, ((f s, (g s).2.2.1), (g s).2.2.2))) = some (b, c, ((a, d), e)) := by
  cases x with
  | none => cases h1
  | some s =>
    have e1 := Option.some.inj h1
    have e2 := Option.some.inj h2
    show some ((g s).1, (g s).2.1, ((f s, (g s).2.2.1), (g s).2.2.2)) = _
    rw [e1, e2]
theorem run_ab {w : World} (h1 : RunA w) (h2 : RunB w) : HandSHeadRun.RunEq R qv hk ob 20000 names w := fun os => by
  have q := map_ab (h1 os) (h2 os)
  exact q
theorem run_fa (w : World) : RunA (w.withFollow "special-get-raises" false) := by
  intro os
  kernel_rfl
theorem run_fb (w : World) : RunB (w.withFollow "special-get-raises" false) := by
  intro os
  kernel_rfl
theorem run_ta (w : World) : RunA (w.withFollow "special-get-raises" true) := by
  intro os
  kernel_rfl
theorem run_tb (w : World) : RunB (w.withFollow "special-get-raises" true) := by
  intro os
  kernel_rfl
theorem run_all (w : World) : HandSHeadRun.RunEq R qv hk ob 20000 names w := byRow2 "special-get-raises" (fun w => run_ab (run_fa w) (run_fb w)) (fun w => run_ab (run_ta w) (run_tb w)) w
end Lg
/-! LgS -/
set_option maxHeartbeats 4000000
namespace Lg
open PySem L2
section
variable {K : PySem.W.Frag} {mg : Str → Option Value}
abbrev N_PromiseBroken_init : List Str := ["self", "index"]
theorem sc_PromiseBroken_init : FnScope N_PromiseBroken_init ["self", "index"] (defScope s_PromiseBroken_init) := ⟨rfl, rfl, rfl, by decide +kernel, rfl, by decide +kernel, by decide +kernel⟩
theorem b_PromiseBroken_init (T : Txt K mg) : Binds K (fdOf K (a_PromiseBroken_init K)) ["self", "index"] [] := (f_PromiseBroken_init T).binds (ps := ["self", "index"]) fun _ _ _ _ _ _ us hl => match us, hl with | [_, _], _ => rfl
abbrev N_is_number : List Str := ["thing", "low", "high"]
theorem sc_is_number : FnScope N_is_number ["thing", "low", "high"] (defScope s_is_number) := ⟨rfl, rfl, rfl, by decide +kernel, rfl, by decide +kernel, by decide +kernel⟩
theorem b_is_number (T : Txt K mg) : Binds K (fdOf K (a_is_number K)) ["thing", "low", "high"] [] := (f_is_number T).binds (ps := ["thing", "low", "high"]) fun _ _ _ _ _ _ us hl => match us, hl with | [_, _, _], _ => rfl
abbrev N_is_word : List Str := ["thing", "letter"]
theorem sc_is_word : FnScope N_is_word ["thing"] (defScope s_is_word) := ⟨rfl, rfl, rfl, by decide +kernel, rfl, by decide +kernel, by decide +kernel⟩
theorem b_is_word (T : Txt K mg) : Binds K (fdOf K (a_is_word K)) ["thing"] [] := (f_is_word T).binds (ps := ["thing"]) fun _ _ _ _ _ _ us hl => match us, hl with | [_], _ => rfl
abbrev N_is_action : List Str := ["thing"]
theorem sc_is_action : FnScope N_is_action ["thing"] (defScope s_is_action) := ⟨rfl, rfl, rfl, by decide +kernel, rfl, by decide +kernel, by decide +kernel⟩
theorem b_is_action (T : Txt K mg) : Binds K (fdOf K (a_is_action K)) ["thing"] [] := (f_is_action T).binds (ps := ["thing"]) fun _ _ _ _ _ _ us hl => match us, hl with | [_], _ => rfl
abbrev N_table_of : List Str := ["control", "one"]
theorem sc_table_of : FnScope N_table_of ["control"] (defScope s_table_of) := ⟨rfl, rfl, rfl, by decide +kernel, rfl, by decide +kernel, by decide +kernel⟩
theorem b_table_of (T : Txt K mg) : Binds K (fdOf K (a_table_of K)) ["control"] [] := (f_table_of T).binds (ps := ["control"]) fun _ _ _ _ _ _ us hl => match us, hl with | [_], _ => rfl
abbrev N_Rule_init : List Str := ["self", "module", "control"]
theorem sc_Rule_init : FnScope N_Rule_init ["self", "module", "control"] (defScope s_Rule_init) := ⟨rfl, rfl, rfl, by decide +kernel, rfl, by decide +kernel, by decide +kernel⟩
theorem b_Rule_init (T : Txt K mg) : Binds K (fdOf K (a_Rule_init K)) ["self", "module", "control"] [] := (f_Rule_init T).binds (ps := ["self", "module", "control"]) fun _ _ _ _ _ _ us hl => match us, hl with | [_, _, _], _ => rfl
abbrev N_Rule_module : List Str := ["self"]
theorem sc_Rule_module : FnScope N_Rule_module ["self"] (defScope s_Rule_module) := ⟨rfl, rfl, rfl, by decide +kernel, rfl, by decide +kernel, by decide +kernel⟩
theorem b_Rule_module (T : Txt K mg) : Binds K (fdOf K (a_Rule_module K)) ["self"] [] := (f_Rule_module T).binds (ps := ["self"]) fun _ _ _ _ _ _ us hl => match us, hl with | [_], _ => rfl
abbrev N_Rule_control : List Str := ["self"]
theorem sc_Rule_control : FnScope N_Rule_control ["self"] (defScope s_Rule_control) := ⟨rfl, rfl, rfl, by decide +kernel, rfl, by decide +kernel, by decide +kernel⟩
theorem b_Rule_control (T : Txt K mg) : Binds K (fdOf K (a_Rule_control K)) ["self"] [] := (f_Rule_control T).binds (ps := ["self"]) fun _ _ _ _ _ _ us hl => match us, hl with | [_], _ => rfl
abbrev N_Rule_eq : List Str := ["self", "other"]
theorem sc_Rule_eq : FnScope N_Rule_eq ["self", "other"] (defScope s_Rule_eq) := ⟨rfl, rfl, rfl, by decide +kernel, rfl, by decide +kernel, by decide +kernel⟩
theorem b_Rule_eq (T : Txt K mg) : Binds K (fdOf K (a_Rule_eq K)) ["self", "other"] [] := (f_Rule_eq T).binds (ps := ["self", "other"]) fun _ _ _ _ _ _ us hl => match us, hl with | [_, _], _ => rfl
abbrev N_Rule_action_for : List Str := ["self", "result"]
theorem sc_Rule_action_for : FnScope N_Rule_action_for ["self", "result"] (defScope s_Rule_action_for) := ⟨rfl, rfl, rfl, by decide +kernel, rfl, by decide +kernel, by decide +kernel⟩
theorem b_Rule_action_for (T : Txt K mg) : Binds K (fdOf K (a_Rule_action_for K)) ["self", "result"] [] := (f_Rule_action_for T).binds (ps := ["self", "result"]) fun _ _ _ _ _ _ us hl => match us, hl with | [_, _], _ => rfl
abbrev N_Stack_init : List Str := ["self", "entries", "index", "entry", "is_stack", "rule"]
theorem sc_Stack_init : FnScope N_Stack_init ["self", "entries"] (defScope s_Stack_init) := ⟨rfl, rfl, rfl, by decide +kernel, rfl, by decide +kernel, by decide +kernel⟩
abbrev N_Stack_entries : List Str := ["self"]
theorem sc_Stack_entries : FnScope N_Stack_entries ["self"] (defScope s_Stack_entries) := ⟨rfl, rfl, rfl, by decide +kernel, rfl, by decide +kernel, by decide +kernel⟩
theorem b_Stack_entries (T : Txt K mg) : Binds K (fdOf K (a_Stack_entries K)) ["self"] [] := (f_Stack_entries T).binds (ps := ["self"]) fun _ _ _ _ _ _ us hl => match us, hl with | [_], _ => rfl
abbrev N_Stack_rules : List Str := ["self"]
theorem sc_Stack_rules : FnScope N_Stack_rules ["self"] (defScope s_Stack_rules) := ⟨rfl, rfl, rfl, by decide +kernel, rfl, by decide +kernel, by decide +kernel⟩
theorem b_Stack_rules (T : Txt K mg) : Binds K (fdOf K (a_Stack_rules K)) ["self"] [] := (f_Stack_rules T).binds (ps := ["self"]) fun _ _ _ _ _ _ us hl => match us, hl with | [_], _ => rfl
abbrev N_Stack_modules : List Str := ["self"]
theorem sc_Stack_modules : FnScope N_Stack_modules ["self"] (defScope s_Stack_modules) := ⟨rfl, rfl, rfl, by decide +kernel, rfl, by decide +kernel, by decide +kernel⟩
theorem b_Stack_modules (T : Txt K mg) : Binds K (fdOf K (a_Stack_modules K)) ["self"] [] := (f_Stack_modules T).binds (ps := ["self"]) fun _ _ _ _ _ _ us hl => match us, hl with | [_], _ => rfl
abbrev N_Stack_len : List Str := ["self"]
theorem sc_Stack_len : FnScope N_Stack_len ["self"] (defScope s_Stack_len) := ⟨rfl, rfl, rfl, by decide +kernel, rfl, by decide +kernel, by decide +kernel⟩
theorem b_Stack_len (T : Txt K mg) : Binds K (fdOf K (a_Stack_len K)) ["self"] [] := (f_Stack_len T).binds (ps := ["self"]) fun _ _ _ _ _ _ us hl => match us, hl with | [_], _ => rfl
abbrev N_Stack_getitem : List Str := ["self", "index"]
theorem sc_Stack_getitem : FnScope N_Stack_getitem ["self", "index"] (defScope s_Stack_getitem) := ⟨rfl, rfl, rfl, by decide +kernel, rfl, by decide +kernel, by decide +kernel⟩
theorem b_Stack_getitem (T : Txt K mg) : Binds K (fdOf K (a_Stack_getitem K)) ["self", "index"] [] := (f_Stack_getitem T).binds (ps := ["self", "index"]) fun _ _ _ _ _ _ us hl => match us, hl with | [_, _], _ => rfl
abbrev N_Stack_iter : List Str := ["self"]
theorem sc_Stack_iter : FnScope N_Stack_iter ["self"] (defScope s_Stack_iter) := ⟨rfl, rfl, rfl, by decide +kernel, rfl, by decide +kernel, by decide +kernel⟩
theorem b_Stack_iter (T : Txt K mg) : Binds K (fdOf K (a_Stack_iter K)) ["self"] [] := (f_Stack_iter T).binds (ps := ["self"]) fun _ _ _ _ _ _ us hl => match us, hl with | [_], _ => rfl
abbrev N_Stack_add : List Str := ["self", "other", "parts"]
theorem sc_Stack_add : FnScope N_Stack_add ["self", "other"] (defScope s_Stack_add) := ⟨rfl, rfl, rfl, by decide +kernel, rfl, by decide +kernel, by decide +kernel⟩
theorem b_Stack_add (T : Txt K mg) : Binds K (fdOf K (a_Stack_add K)) ["self", "other"] [] := (f_Stack_add T).binds (ps := ["self", "other"]) fun _ _ _ _ _ _ us hl => match us, hl with | [_, _], _ => rfl
abbrev N_Stack_eq : List Str := ["self", "other"]
theorem sc_Stack_eq : FnScope N_Stack_eq ["self", "other"] (defScope s_Stack_eq) := ⟨rfl, rfl, rfl, by decide +kernel, rfl, by decide +kernel, by decide +kernel⟩
theorem b_Stack_eq (T : Txt K mg) : Binds K (fdOf K (a_Stack_eq K)) ["self", "other"] [] := (f_Stack_eq T).binds (ps := ["self", "other"]) fun _ _ _ _ _ _ us hl => match us, hl with | [_, _], _ => rfl
abbrev N_Stack_spliced : List Str := ["self", "index", "count", "entries", "parts"]
theorem sc_Stack_spliced : FnScope N_Stack_spliced ["self", "index", "count", "entries"] (defScope s_Stack_spliced) := ⟨rfl, rfl, rfl, by decide +kernel, rfl, by decide +kernel, by decide +kernel⟩
theorem b_Stack_spliced (T : Txt K mg) : Binds K (fdOf K (a_Stack_spliced K)) ["self", "index", "count", "entries"] [] := (f_Stack_spliced T).binds (ps := ["self", "index", "count", "entries"]) fun _ _ _ _ _ _ us hl => match us, hl with | [_, _, _, _], _ => rfl
abbrev N_steps_of : List Str := ["entry"]
theorem sc_steps_of : FnScope N_steps_of ["entry"] (defScope s_steps_of) := ⟨rfl, rfl, rfl, by decide +kernel, rfl, by decide +kernel, by decide +kernel⟩
theorem b_steps_of (T : Txt K mg) : Binds K (fdOf K (a_steps_of K)) ["entry"] [] := (f_steps_of T).binds (ps := ["entry"]) fun _ _ _ _ _ _ us hl => match us, hl with | [_], _ => rfl
abbrev N_firsts_of : List Str := ["stack", "first", "found", "entry"]
theorem sc_firsts_of : FnScope N_firsts_of ["stack", "first"] (defScope s_firsts_of) := ⟨rfl, rfl, rfl, by decide +kernel, rfl, by decide +kernel, by decide +kernel⟩
theorem b_firsts_of (T : Txt K mg) : Binds K (fdOf K (a_firsts_of K)) ["stack", "first"] [] := (f_firsts_of T).binds (ps := ["stack", "first"]) fun _ _ _ _ _ _ us hl => match us, hl with | [_, _], _ => rfl
abbrev N_Run_init : List Str := ["self", "stack", "results"]
theorem sc_Run_init : FnScope N_Run_init ["self", "stack", "results"] (defScope s_Run_init) := ⟨rfl, rfl, rfl, by decide +kernel, rfl, by decide +kernel, by decide +kernel⟩
theorem b_Run_init (T : Txt K mg) : Binds K (fdOf K (a_Run_init K)) ["self", "stack", "results"] [] := (f_Run_init T).binds (ps := ["self", "stack", "results"]) fun _ _ _ _ _ _ us hl => match us, hl with | [_, _, _], _ => rfl
abbrev N_Run_ended : List Str := ["self", "stack", "first", "mark", "begin", "index", "firsts", "action", "entry", "number"]
theorem sc_Run_ended : FnScope N_Run_ended ["self", "stack", "first", "mark"] (defScope s_Run_ended) := ⟨rfl, rfl, rfl, by decide +kernel, rfl, by decide +kernel, by decide +kernel⟩
theorem b_Run_ended (T : Txt K mg) : Binds K (fdOf K (a_Run_ended K)) ["self", "stack", "first", "mark"] [] := (f_Run_ended T).binds (ps := ["self", "stack", "first", "mark"]) fun _ _ _ _ _ _ us hl => match us, hl with | [_, _, _, _], _ => rfl
abbrev N_Run_outcome : List Str := ["self"]
theorem sc_Run_outcome : FnScope N_Run_outcome ["self"] (defScope s_Run_outcome) := ⟨rfl, rfl, rfl, by decide +kernel, rfl, by decide +kernel, by decide +kernel⟩
theorem b_Run_outcome (T : Txt K mg) : Binds K (fdOf K (a_Run_outcome K)) ["self"] [] := (f_Run_outcome T).binds (ps := ["self"]) fun _ _ _ _ _ _ us hl => match us, hl with | [_], _ => rfl
abbrev N_marked : List Str := ["action", "mark", "begin", "number"]
theorem sc_marked : FnScope N_marked ["action", "mark", "begin", "number"] (defScope s_marked) := ⟨rfl, rfl, rfl, by decide +kernel, rfl, by decide +kernel, by decide +kernel⟩
theorem b_marked (T : Txt K mg) : Binds K (fdOf K (a_marked K)) ["action", "mark", "begin", "number"] [] := (f_marked T).binds (ps := ["action", "mark", "begin", "number"]) fun _ _ _ _ _ _ us hl => match us, hl with | [_, _, _, _], _ => rfl
abbrev N_need_answers : List Str := ["modules", "answers", "is_whole", "name"]
theorem sc_need_answers : FnScope N_need_answers ["modules", "answers", "is_whole"] (defScope s_need_answers) := ⟨rfl, rfl, rfl, by decide +kernel, rfl, by decide +kernel, by decide +kernel⟩
theorem b_need_answers (T : Txt K mg) : Binds K (fdOf K (a_need_answers K)) ["modules", "answers", "is_whole"] [] := (f_need_answers T).binds (ps := ["modules", "answers", "is_whole"]) fun _ _ _ _ _ _ us hl => match us, hl with | [_, _, _], _ => rfl
abbrev N_all_answers : List Str := ["modules", "found", "name", "answers", "result"]
theorem sc_all_answers : FnScope N_all_answers ["modules"] (defScope s_all_answers) := ⟨rfl, rfl, rfl, by decide +kernel, rfl, by decide +kernel, by decide +kernel⟩
theorem b_all_answers (T : Txt K mg) : Binds K (fdOf K (a_all_answers K)) ["modules"] [] := (f_all_answers T).binds (ps := ["modules"]) fun _ _ _ _ _ _ us hl => match us, hl with | [_], _ => rfl
abbrev N_outcomes : List Str := ["stack", "answers"]
theorem sc_outcomes : FnScope N_outcomes ["stack"] (defScope s_outcomes) := ⟨rfl, rfl, rfl, by decide +kernel, rfl, by decide +kernel, by decide +kernel⟩
theorem b_outcomes (T : Txt K mg) : Binds K (fdOf K (a_outcomes K)) ["stack"] [] := (f_outcomes T).binds (ps := ["stack"]) fun _ _ _ _ _ _ us hl => match us, hl with | [_], _ => rfl
abbrev N_agrees : List Str := ["answers", "known", "name", "result"]
theorem sc_agrees : FnScope N_agrees ["answers", "known"] (defScope s_agrees) := ⟨rfl, rfl, rfl, by decide +kernel, rfl, by decide +kernel, by decide +kernel⟩
theorem b_agrees (T : Txt K mg) : Binds K (fdOf K (a_agrees K)) ["answers", "known"] [] := (f_agrees T).binds (ps := ["answers", "known"]) fun _ _ _ _ _ _ us hl => match us, hl with | [_, _], _ => rfl
abbrev N_both_outcomes : List Str := ["one", "other", "names", "answers"]
theorem sc_both_outcomes : FnScope N_both_outcomes ["one", "other"] (defScope s_both_outcomes) := ⟨rfl, rfl, rfl, by decide +kernel, rfl, by decide +kernel, by decide +kernel⟩
theorem b_both_outcomes (T : Txt K mg) : Binds K (fdOf K (a_both_outcomes K)) ["one", "other"] [] := (f_both_outcomes T).binds (ps := ["one", "other"]) fun _ _ _ _ _ _ us hl => match us, hl with | [_, _], _ => rfl
abbrev N_need_word : List Str := ["word"]
theorem sc_need_word : FnScope N_need_word ["word"] (defScope s_need_word) := ⟨rfl, rfl, rfl, by decide +kernel, rfl, by decide +kernel, by decide +kernel⟩
theorem b_need_word (T : Txt K mg) : Binds K (fdOf K (a_need_word K)) ["word"] [] := (f_need_word T).binds (ps := ["word"]) fun _ _ _ _ _ _ us hl => match us, hl with | [_], _ => rfl
abbrev N_fewest_splits : List Str := ["rows", "known", "key", "best", "columns", "column", "parts", "side", "row", "word", "part"]
theorem sc_fewest_splits : FnScope N_fewest_splits ["rows", "known"] (defScope s_fewest_splits) := ⟨rfl, rfl, rfl, by decide +kernel, rfl, by decide +kernel, by decide +kernel⟩
theorem b_fewest_splits (T : Txt K mg) : Binds K (fdOf K (a_fewest_splits K)) ["rows", "known"] [] := (f_fewest_splits T).binds (ps := ["rows", "known"]) fun _ _ _ _ _ _ us hl => match us, hl with | [_, _], _ => rfl
abbrev N_Prober_init : List Str := ["self", "stack", "own", "hidden", "name", "is_right", "candidate", "row", "choice"]
theorem sc_Prober_init : FnScope N_Prober_init ["self", "stack", "own"] (defScope s_Prober_init) := ⟨rfl, rfl, rfl, by decide +kernel, rfl, by decide +kernel, by decide +kernel⟩
theorem b_Prober_init (T : Txt K mg) : Binds K (fdOf K (a_Prober_init K)) ["self", "stack", "own"] [] := (f_Prober_init T).binds (ps := ["self", "stack", "own"]) fun _ _ _ _ _ _ us hl => match us, hl with | [_, _, _], _ => rfl
abbrev N_Prober_candidates : List Str := ["self", "candidate", "row"]
theorem sc_Prober_candidates : FnScope N_Prober_candidates ["self"] (defScope s_Prober_candidates) := ⟨rfl, rfl, rfl, by decide +kernel, rfl, by decide +kernel, by decide +kernel⟩
theorem b_Prober_candidates (T : Txt K mg) : Binds K (fdOf K (a_Prober_candidates K)) ["self"] [] := (f_Prober_candidates T).binds (ps := ["self"]) fun _ _ _ _ _ _ us hl => match us, hl with | [_], _ => rfl
abbrev N_Prober_history : List Str := ["self", "choice", "word"]
theorem sc_Prober_history : FnScope N_Prober_history ["self"] (defScope s_Prober_history) := ⟨rfl, rfl, rfl, by decide +kernel, rfl, by decide +kernel, by decide +kernel⟩
theorem b_Prober_history (T : Txt K mg) : Binds K (fdOf K (a_Prober_history K)) ["self"] [] := (f_Prober_history T).binds (ps := ["self"]) fun _ _ _ _ _ _ us hl => match us, hl with | [_], _ => rfl
abbrev N_Prober_run : List Str := ["self", "choice", "word", "column", "left", "pair"]
theorem sc_Prober_run : FnScope N_Prober_run ["self", "choice", "word"] (defScope s_Prober_run) := ⟨rfl, rfl, rfl, by decide +kernel, rfl, by decide +kernel, by decide +kernel⟩
theorem b_Prober_run (T : Txt K mg) : Binds K (fdOf K (a_Prober_run K)) ["self", "choice", "word"] [] := (f_Prober_run T).binds (ps := ["self", "choice", "word"]) fun _ _ _ _ _ _ us hl => match us, hl with | [_, _, _], _ => rfl
abbrev N_Prober_kinds : List Str := ["self", "found", "candidate", "row"]
theorem sc_Prober_kinds : FnScope N_Prober_kinds ["self"] (defScope s_Prober_kinds) := ⟨rfl, rfl, rfl, by decide +kernel, rfl, by decide +kernel, by decide +kernel⟩
theorem b_Prober_kinds (T : Txt K mg) : Binds K (fdOf K (a_Prober_kinds K)) ["self"] [] := (f_Prober_kinds T).binds (ps := ["self"]) fun _ _ _ _ _ _ us hl => match us, hl with | [_], _ => rfl
abbrev N_Prober_fewest_runs : List Str := ["self", "rows", "candidate", "row"]
theorem sc_Prober_fewest_runs : FnScope N_Prober_fewest_runs ["self"] (defScope s_Prober_fewest_runs) := ⟨rfl, rfl, rfl, by decide +kernel, rfl, by decide +kernel, by decide +kernel⟩
theorem b_Prober_fewest_runs (T : Txt K mg) : Binds K (fdOf K (a_Prober_fewest_runs K)) ["self"] [] := (f_Prober_fewest_runs T).binds (ps := ["self"]) fun _ _ _ _ _ _ us hl => match us, hl with | [_], _ => rfl
abbrev N_where_all : List Str := ["rows", "known", "found", "answers", "where"]
theorem sc_where_all : FnScope N_where_all ["rows", "known"] (defScope s_where_all) := ⟨rfl, rfl, rfl, by decide +kernel, rfl, by decide +kernel, by decide +kernel⟩
theorem b_where_all (T : Txt K mg) : Binds K (fdOf K (a_where_all K)) ["rows", "known"] [] := (f_where_all T).binds (ps := ["rows", "known"]) fun _ _ _ _ _ _ us hl => match us, hl with | [_, _], _ => rfl
abbrev N_is_operation : List Str := ["value"]
theorem sc_is_operation : FnScope N_is_operation ["value"] (defScope s_is_operation) := ⟨rfl, rfl, rfl, by decide +kernel, rfl, by decide +kernel, by decide +kernel⟩
theorem b_is_operation (T : Txt K mg) : Binds K (fdOf K (a_is_operation K)) ["value"] [] := (f_is_operation T).binds (ps := ["value"]) fun _ _ _ _ _ _ us hl => match us, hl with | [_], _ => rfl
abbrev N_with_control : List Str := ["stack", "first", "number", "control", "parts", "entry", "begin"]
theorem sc_with_control : FnScope N_with_control ["stack", "first", "number", "control"] (defScope s_with_control) := ⟨rfl, rfl, rfl, by decide +kernel, rfl, by decide +kernel, by decide +kernel⟩
theorem b_with_control (T : Txt K mg) : Binds K (fdOf K (a_with_control K)) ["stack", "first", "number", "control"] [] := (f_with_control T).binds (ps := ["stack", "first", "number", "control"]) fun _ _ _ _ _ _ us hl => match us, hl with | [_, _, _, _], _ => rfl
abbrev N_State_init : List Str := ["self", "kept", "past", "undone"]
theorem sc_State_init : FnScope N_State_init ["self", "kept", "past", "undone"] (defScope s_State_init) := ⟨rfl, rfl, rfl, by decide +kernel, rfl, by decide +kernel, by decide +kernel⟩
theorem b_State_init (T : Txt K mg) : Binds K (fdOf K (a_State_init K)) ["self", "kept", "past", "undone"] [] := (f_State_init T).binds (ps := ["self", "kept", "past", "undone"]) fun _ _ _ _ _ _ us hl => match us, hl with | [_, _, _, _], _ => rfl
abbrev N_State_kept : List Str := ["self"]
theorem sc_State_kept : FnScope N_State_kept ["self"] (defScope s_State_kept) := ⟨rfl, rfl, rfl, by decide +kernel, rfl, by decide +kernel, by decide +kernel⟩
theorem b_State_kept (T : Txt K mg) : Binds K (fdOf K (a_State_kept K)) ["self"] [] := (f_State_kept T).binds (ps := ["self"]) fun _ _ _ _ _ _ us hl => match us, hl with | [_], _ => rfl
abbrev N_State_copied : List Str := ["self"]
theorem sc_State_copied : FnScope N_State_copied ["self"] (defScope s_State_copied) := ⟨rfl, rfl, rfl, by decide +kernel, rfl, by decide +kernel, by decide +kernel⟩
theorem b_State_copied (T : Txt K mg) : Binds K (fdOf K (a_State_copied K)) ["self"] [] := (f_State_copied T).binds (ps := ["self"]) fun _ _ _ _ _ _ us hl => match us, hl with | [_], _ => rfl
abbrev N_State_go_on : List Str := ["self", "operation", "kept"]
theorem sc_State_go_on : FnScope N_State_go_on ["self", "operation", "kept"] (defScope s_State_go_on) := ⟨rfl, rfl, rfl, by decide +kernel, rfl, by decide +kernel, by decide +kernel⟩
theorem b_State_go_on (T : Txt K mg) : Binds K (fdOf K (a_State_go_on K)) ["self", "operation", "kept"] [] := (f_State_go_on T).binds (ps := ["self", "operation", "kept"]) fun _ _ _ _ _ _ us hl => match us, hl with | [_, _, _], _ => rfl
abbrev N_State_go_back : List Str := ["self", "operation", "kept"]
theorem sc_State_go_back : FnScope N_State_go_back ["self"] (defScope s_State_go_back) := ⟨rfl, rfl, rfl, by decide +kernel, rfl, by decide +kernel, by decide +kernel⟩
theorem b_State_go_back (T : Txt K mg) : Binds K (fdOf K (a_State_go_back K)) ["self"] [] := (f_State_go_back T).binds (ps := ["self"]) fun _ _ _ _ _ _ us hl => match us, hl with | [_], _ => rfl
abbrev N_State_go_again : List Str := ["self", "operation", "kept"]
theorem sc_State_go_again : FnScope N_State_go_again ["self"] (defScope s_State_go_again) := ⟨rfl, rfl, rfl, by decide +kernel, rfl, by decide +kernel, by decide +kernel⟩
theorem b_State_go_again (T : Txt K mg) : Binds K (fdOf K (a_State_go_again K)) ["self"] [] := (f_State_go_again T).binds (ps := ["self"]) fun _ _ _ _ _ _ us hl => match us, hl with | [_], _ => rfl
abbrev N_copied : List Str := ["operation"]
theorem sc_copied : FnScope N_copied ["operation"] (defScope s_copied) := ⟨rfl, rfl, rfl, by decide +kernel, rfl, by decide +kernel, by decide +kernel⟩
theorem b_copied (T : Txt K mg) : Binds K (fdOf K (a_copied K)) ["operation"] [] := (f_copied T).binds (ps := ["operation"]) fun _ _ _ _ _ _ us hl => match us, hl with | [_], _ => rfl
abbrev N_Register_init : List Str := ["self", "stack"]
theorem sc_Register_init : FnScope N_Register_init ["self", "stack"] (defScope s_Register_init) := ⟨rfl, rfl, rfl, by decide +kernel, rfl, by decide +kernel, by decide +kernel⟩
theorem b_Register_init (T : Txt K mg) : Binds K (fdOf K (a_Register_init K)) ["self", "stack"] [] := (f_Register_init T).binds (ps := ["self", "stack"]) fun _ _ _ _ _ _ us hl => match us, hl with | [_, _], _ => rfl
abbrev N_Register_stored : List Str := ["self"]
theorem sc_Register_stored : FnScope N_Register_stored ["self"] (defScope s_Register_stored) := ⟨rfl, rfl, rfl, by decide +kernel, rfl, by decide +kernel, by decide +kernel⟩
theorem b_Register_stored (T : Txt K mg) : Binds K (fdOf K (a_Register_stored K)) ["self"] [] := (f_Register_stored T).binds (ps := ["self"]) fun _ _ _ _ _ _ us hl => match us, hl with | [_], _ => rfl
abbrev N_Register_promises : List Str := ["self", "known", "word"]
theorem sc_Register_promises : FnScope N_Register_promises ["self"] (defScope s_Register_promises) := ⟨rfl, rfl, rfl, by decide +kernel, rfl, by decide +kernel, by decide +kernel⟩
theorem b_Register_promises (T : Txt K mg) : Binds K (fdOf K (a_Register_promises K)) ["self"] [] := (f_Register_promises T).binds (ps := ["self"]) fun _ _ _ _ _ _ us hl => match us, hl with | [_], _ => rfl
abbrev N_Register_history : List Str := ["self", "operation", "ahead"]
theorem sc_Register_history : FnScope N_Register_history ["self"] (defScope s_Register_history) := ⟨rfl, rfl, rfl, by decide +kernel, rfl, by decide +kernel, by decide +kernel⟩
theorem b_Register_history (T : Txt K mg) : Binds K (fdOf K (a_Register_history K)) ["self"] [] := (f_Register_history T).binds (ps := ["self"]) fun _ _ _ _ _ _ us hl => match us, hl with | [_], _ => rfl
abbrev N_Register_stack : List Str := ["self"]
theorem sc_Register_stack : FnScope N_Register_stack ["self"] (defScope s_Register_stack) := ⟨rfl, rfl, rfl, by decide +kernel, rfl, by decide +kernel, by decide +kernel⟩
theorem b_Register_stack (T : Txt K mg) : Binds K (fdOf K (a_Register_stack K)) ["self"] [] := (f_Register_stack T).binds (ps := ["self"]) fun _ _ _ _ _ _ us hl => match us, hl with | [_], _ => rfl
abbrev N_Register_enter : List Str := ["self", "operation", "present", "vows", "noted", "rows", "index", "here", "known", "word", "name", "result"]
theorem sc_Register_enter : FnScope N_Register_enter ["self", "operation", "present", "vows", "noted"] (defScope s_Register_enter) := ⟨rfl, rfl, rfl, by decide +kernel, rfl, by decide +kernel, by decide +kernel⟩
theorem b_Register_enter (T : Txt K mg) : Binds K (fdOf K (a_Register_enter K)) ["self", "operation", "present", "vows", "noted"] [] := (f_Register_enter T).binds (ps := ["self", "operation", "present", "vows", "noted"]) fun _ _ _ _ _ _ us hl => match us, hl with | [_, _, _, _, _], _ => rfl
abbrev N_Register_edit : List Str := ["self", "operation", "later", "rows", "answers", "here", "there"]
theorem sc_Register_edit : FnScope N_Register_edit ["self", "operation", "later"] (defScope s_Register_edit) := ⟨rfl, rfl, rfl, by decide +kernel, rfl, by decide +kernel, by decide +kernel⟩
theorem b_Register_edit (T : Txt K mg) : Binds K (fdOf K (a_Register_edit K)) ["self", "operation", "later"] [] := (f_Register_edit T).binds (ps := ["self", "operation", "later"]) fun _ _ _ _ _ _ us hl => match us, hl with | [_, _, _], _ => rfl
abbrev N_Register_need_entries : List Str := ["self", "index", "count"]
theorem sc_Register_need_entries : FnScope N_Register_need_entries ["self", "index", "count"] (defScope s_Register_need_entries) := ⟨rfl, rfl, rfl, by decide +kernel, rfl, by decide +kernel, by decide +kernel⟩
theorem b_Register_need_entries (T : Txt K mg) : Binds K (fdOf K (a_Register_need_entries K)) ["self", "index", "count"] [] := (f_Register_need_entries T).binds (ps := ["self", "index", "count"]) fun _ _ _ _ _ _ us hl => match us, hl with | [_, _, _], _ => rfl
abbrev N_Register_put : List Str := ["self", "index", "entry"]
theorem sc_Register_put : FnScope N_Register_put ["self", "index", "entry"] (defScope s_Register_put) := ⟨rfl, rfl, rfl, by decide +kernel, rfl, by decide +kernel, by decide +kernel⟩
theorem b_Register_put (T : Txt K mg) : Binds K (fdOf K (a_Register_put K)) ["self", "index", "entry"] [] := (f_Register_put T).binds (ps := ["self", "index", "entry"]) fun _ _ _ _ _ _ us hl => match us, hl with | [_, _, _], _ => rfl
abbrev N_Register_take : List Str := ["self", "index"]
theorem sc_Register_take : FnScope N_Register_take ["self", "index"] (defScope s_Register_take) := ⟨rfl, rfl, rfl, by decide +kernel, rfl, by decide +kernel, by decide +kernel⟩
theorem b_Register_take (T : Txt K mg) : Binds K (fdOf K (a_Register_take K)) ["self", "index"] [] := (f_Register_take T).binds (ps := ["self", "index"]) fun _ _ _ _ _ _ us hl => match us, hl with | [_, _], _ => rfl
abbrev N_Register_swap : List Str := ["self", "index", "present"]
theorem sc_Register_swap : FnScope N_Register_swap ["self", "index"] (defScope s_Register_swap) := ⟨rfl, rfl, rfl, by decide +kernel, rfl, by decide +kernel, by decide +kernel⟩
theorem b_Register_swap (T : Txt K mg) : Binds K (fdOf K (a_Register_swap K)) ["self", "index"] [] := (f_Register_swap T).binds (ps := ["self", "index"]) fun _ _ _ _ _ _ us hl => match us, hl with | [_, _], _ => rfl
abbrev N_Register_turn : List Str := ["self", "number", "control", "present"]
theorem sc_Register_turn : FnScope N_Register_turn ["self", "number", "control"] (defScope s_Register_turn) := ⟨rfl, rfl, rfl, by decide +kernel, rfl, by decide +kernel, by decide +kernel⟩
theorem b_Register_turn (T : Txt K mg) : Binds K (fdOf K (a_Register_turn K)) ["self", "number", "control"] [] := (f_Register_turn T).binds (ps := ["self", "number", "control"]) fun _ _ _ _ _ _ us hl => match us, hl with | [_, _, _], _ => rfl
abbrev N_Register_promise : List Str := ["self", "known", "word", "present", "vows"]
theorem sc_Register_promise : FnScope N_Register_promise ["self", "known", "word"] (defScope s_Register_promise) := ⟨rfl, rfl, rfl, by decide +kernel, rfl, by decide +kernel, by decide +kernel⟩
theorem b_Register_promise (T : Txt K mg) : Binds K (fdOf K (a_Register_promise K)) ["self", "known", "word"] [] := (f_Register_promise T).binds (ps := ["self", "known", "word"]) fun _ _ _ _ _ _ us hl => match us, hl with | [_, _, _], _ => rfl
abbrev N_Register_store : List Str := ["self", "name", "present", "vows", "noted"]
theorem sc_Register_store : FnScope N_Register_store ["self", "name"] (defScope s_Register_store) := ⟨rfl, rfl, rfl, by decide +kernel, rfl, by decide +kernel, by decide +kernel⟩
theorem b_Register_store (T : Txt K mg) : Binds K (fdOf K (a_Register_store K)) ["self", "name"] [] := (f_Register_store T).binds (ps := ["self", "name"]) fun _ _ _ _ _ _ us hl => match us, hl with | [_, _], _ => rfl
abbrev N_Register_go : List Str := ["self", "name", "present", "vows"]
theorem sc_Register_go : FnScope N_Register_go ["self", "name"] (defScope s_Register_go) := ⟨rfl, rfl, rfl, by decide +kernel, rfl, by decide +kernel, by decide +kernel⟩
theorem b_Register_go (T : Txt K mg) : Binds K (fdOf K (a_Register_go K)) ["self", "name"] [] := (f_Register_go T).binds (ps := ["self", "name"]) fun _ _ _ _ _ _ us hl => match us, hl with | [_, _], _ => rfl
abbrev N_Register_undo : List Str := ["self"]
theorem sc_Register_undo : FnScope N_Register_undo ["self"] (defScope s_Register_undo) := ⟨rfl, rfl, rfl, by decide +kernel, rfl, by decide +kernel, by decide +kernel⟩
theorem b_Register_undo (T : Txt K mg) : Binds K (fdOf K (a_Register_undo K)) ["self"] [] := (f_Register_undo T).binds (ps := ["self"]) fun _ _ _ _ _ _ us hl => match us, hl with | [_], _ => rfl
abbrev N_Register_redo : List Str := ["self"]
theorem sc_Register_redo : FnScope N_Register_redo ["self"] (defScope s_Register_redo) := ⟨rfl, rfl, rfl, by decide +kernel, rfl, by decide +kernel, by decide +kernel⟩
theorem b_Register_redo (T : Txt K mg) : Binds K (fdOf K (a_Register_redo K)) ["self"] [] := (f_Register_redo T).binds (ps := ["self"]) fun _ _ _ _ _ _ us hl => match us, hl with | [_], _ => rfl
abbrev N_Register_execute : List Str := ["self", "operation", "word", "rest"]
theorem sc_Register_execute : FnScope N_Register_execute ["self", "operation"] (defScope s_Register_execute) := ⟨rfl, rfl, rfl, by decide +kernel, rfl, by decide +kernel, by decide +kernel⟩
theorem b_Register_execute (T : Txt K mg) : Binds K (fdOf K (a_Register_execute K)) ["self", "operation"] [] := (f_Register_execute T).binds (ps := ["self", "operation"]) fun _ _ _ _ _ _ us hl => match us, hl with | [_, _], _ => rfl
abbrev N_Register_apply_all : List Str := ["self", "operations", "index", "operation", "trial", "found"]
theorem sc_Register_apply_all : FnScope N_Register_apply_all ["self", "operations"] (defScope s_Register_apply_all) := ⟨rfl, rfl, rfl, by decide +kernel, rfl, by decide +kernel, by decide +kernel⟩
theorem b_Register_apply_all (T : Txt K mg) : Binds K (fdOf K (a_Register_apply_all K)) ["self", "operations"] [] := (f_Register_apply_all T).binds (ps := ["self", "operations"]) fun _ _ _ _ _ _ us hl => match us, hl with | [_, _], _ => rfl
abbrev N_Register_tried : List Str := ["self", "operations", "keep", "trial", "found"]
theorem sc_Register_tried : FnScope N_Register_tried ["self", "operations", "keep"] (defScope s_Register_tried) := ⟨rfl, rfl, rfl, by decide +kernel, rfl, by decide +kernel, by decide +kernel⟩
theorem b_Register_tried (T : Txt K mg) : Binds K (fdOf K (a_Register_tried K)) ["self", "operations", "keep"] [] := (f_Register_tried T).binds (ps := ["self", "operations", "keep"]) fun _ _ _ _ _ _ us hl => match us, hl with | [_, _, _], _ => rfl
abbrev N_Trial_init : List Str := ["self", "desk"]
theorem sc_Trial_init : FnScope N_Trial_init ["self", "desk"] (defScope s_Trial_init) := ⟨rfl, rfl, rfl, by decide +kernel, rfl, by decide +kernel, by decide +kernel⟩
theorem b_Trial_init (T : Txt K mg) : Binds K (fdOf K (a_Trial_init K)) ["self", "desk"] [] := (f_Trial_init T).binds (ps := ["self", "desk"]) fun _ _ _ _ _ _ us hl => match us, hl with | [_, _], _ => rfl
abbrev N_Trial_hold : List Str := ["self"]
theorem sc_Trial_hold : FnScope N_Trial_hold ["self"] (defScope s_Trial_hold) := ⟨rfl, rfl, rfl, by decide +kernel, rfl, by decide +kernel, by decide +kernel⟩
theorem b_Trial_hold (T : Txt K mg) : Binds K (fdOf K (a_Trial_hold K)) ["self"] [] := (f_Trial_hold T).binds (ps := ["self"]) fun _ _ _ _ _ _ us hl => match us, hl with | [_], _ => rfl
abbrev N_Trial_enter : List Str := ["self"]
theorem sc_Trial_enter : FnScope N_Trial_enter ["self"] (defScope s_Trial_enter) := ⟨rfl, rfl, rfl, by decide +kernel, rfl, by decide +kernel, by decide +kernel⟩
theorem b_Trial_enter (T : Txt K mg) : Binds K (fdOf K (a_Trial_enter K)) ["self"] [] := (f_Trial_enter T).binds (ps := ["self"]) fun _ _ _ _ _ _ us hl => match us, hl with | [_], _ => rfl
abbrev N_Trial_exit : List Str := ["self", "kind", "error", "trace"]
theorem sc_Trial_exit : FnScope N_Trial_exit ["self", "kind", "error", "trace"] (defScope s_Trial_exit) := ⟨rfl, rfl, rfl, by decide +kernel, rfl, by decide +kernel, by decide +kernel⟩
theorem b_Trial_exit (T : Txt K mg) : Binds K (fdOf K (a_Trial_exit K)) ["self", "kind", "error", "trace"] [] := (f_Trial_exit T).binds (ps := ["self", "kind", "error", "trace"]) fun _ _ _ _ _ _ us hl => match us, hl with | [_, _, _, _], _ => rfl
abbrev N_w_taken : List Str := ["_law_row", "_law_many", "_law_found", "_law_cell"]
theorem sc_w_taken : FnScope N_w_taken ["_law_row", "_law_many"] (defScope s_w_taken) := ⟨rfl, rfl, rfl, by decide +kernel, rfl, by decide +kernel, by decide +kernel⟩
theorem b_w_taken (T : Txt K mg) : Binds K (fdOf K (a_w_taken K)) ["_law_row", "_law_many"] [] := (f_w_taken T).binds (ps := ["_law_row", "_law_many"]) fun _ _ _ _ _ _ us hl => match us, hl with | [_, _], _ => rfl
abbrev N_w_pick : List Str := ["_law_row", "_law_some"]
theorem sc_w_pick : FnScope N_w_pick ["_law_row", "_law_some"] (defScope s_w_pick) := ⟨rfl, rfl, rfl, by decide +kernel, rfl, by decide +kernel, by decide +kernel⟩
theorem b_w_pick (T : Txt K mg) : Binds K (fdOf K (a_w_pick K)) ["_law_row", "_law_some"] [] := (f_w_pick T).binds (ps := ["_law_row", "_law_some"]) fun _ _ _ _ _ _ us hl => match us, hl with | [_, _], _ => rfl
abbrev N_w_table : List Str := ["_law_row", "_law_plain_here", "_law_words", "_law_acts", "_law_k"]
theorem sc_w_table : FnScope N_w_table ["_law_row", "_law_plain_here"] (defScope s_w_table) := ⟨rfl, rfl, rfl, by decide +kernel, rfl, by decide +kernel, by decide +kernel⟩
theorem b_w_table (T : Txt K mg) : Binds K (fdOf K (a_w_table K)) ["_law_row", "_law_plain_here"] [] := (f_w_table T).binds (ps := ["_law_row", "_law_plain_here"]) fun _ _ _ _ _ _ us hl => match us, hl with | [_, _], _ => rfl
abbrev N_w_plain : List Str := ["_law_row", "_law_names", "_law_most", "_law_deep", "_law_plain_here", "_law_found", "_law_left", "_law_k", "_law_inner"]
theorem sc_w_plain : FnScope N_w_plain ["_law_row", "_law_names", "_law_most", "_law_deep", "_law_plain_here"] (defScope s_w_plain) := ⟨rfl, rfl, rfl, by decide +kernel, rfl, by decide +kernel, by decide +kernel⟩
theorem b_w_plain (T : Txt K mg) : Binds K (fdOf K (a_w_plain K)) ["_law_row", "_law_names", "_law_most", "_law_deep", "_law_plain_here"] [] := (f_w_plain T).binds (ps := ["_law_row", "_law_names", "_law_most", "_law_deep", "_law_plain_here"]) fun _ _ _ _ _ _ us hl => match us, hl with | [_, _, _, _, _], _ => rfl
abbrev N_w_rules : List Str := ["_law_plain_here", "_law_found", "_law_entry"]
theorem sc_w_rules : FnScope N_w_rules ["_law_plain_here"] (defScope s_w_rules) := ⟨rfl, rfl, rfl, by decide +kernel, rfl, by decide +kernel, by decide +kernel⟩
theorem b_w_rules (T : Txt K mg) : Binds K (fdOf K (a_w_rules K)) ["_law_plain_here"] [] := (f_w_rules T).binds (ps := ["_law_plain_here"]) fun _ _ _ _ _ _ us hl => match us, hl with | [_], _ => rfl
abbrev N_w_modules : List Str := ["_law_plain_here", "_law_rule"]
theorem sc_w_modules : FnScope N_w_modules ["_law_plain_here"] (defScope s_w_modules) := ⟨rfl, rfl, rfl, by decide +kernel, rfl, by decide +kernel, by decide +kernel⟩
theorem b_w_modules (T : Txt K mg) : Binds K (fdOf K (a_w_modules K)) ["_law_plain_here"] [] := (f_w_modules T).binds (ps := ["_law_plain_here"]) fun _ _ _ _ _ _ us hl => match us, hl with | [_], _ => rfl
abbrev N_w_made : List Str := ["_law_plain_here", "_law_found", "_law_entry"]
theorem sc_w_made : FnScope N_w_made ["_law_plain_here"] (defScope s_w_made) := ⟨rfl, rfl, rfl, by decide +kernel, rfl, by decide +kernel, by decide +kernel⟩
theorem b_w_made (T : Txt K mg) : Binds K (fdOf K (a_w_made K)) ["_law_plain_here"] [] := (f_w_made T).binds (ps := ["_law_plain_here"]) fun _ _ _ _ _ _ us hl => match us, hl with | [_], _ => rfl
abbrev N_w_all : List Str := ["_law_names", "_law_found", "_law_name", "_law_longer", "_law_some", "_law_result"]
theorem sc_w_all : FnScope N_w_all ["_law_names"] (defScope s_w_all) := ⟨rfl, rfl, rfl, by decide +kernel, rfl, by decide +kernel, by decide +kernel⟩
theorem b_w_all (T : Txt K mg) : Binds K (fdOf K (a_w_all K)) ["_law_names"] [] := (f_w_all T).binds (ps := ["_law_names"]) fun _ _ _ _ _ _ us hl => match us, hl with | [_], _ => rfl
abbrev N_w_acted : List Str := ["_law_action", "_law_mark", "_law_begin", "_law_number"]
theorem sc_w_acted : FnScope N_w_acted ["_law_action", "_law_mark", "_law_begin", "_law_number"] (defScope s_w_acted) := ⟨rfl, rfl, rfl, by decide +kernel, rfl, by decide +kernel, by decide +kernel⟩
theorem b_w_acted (T : Txt K mg) : Binds K (fdOf K (a_w_acted K)) ["_law_action", "_law_mark", "_law_begin", "_law_number"] [] := (f_w_acted T).binds (ps := ["_law_action", "_law_mark", "_law_begin", "_law_number"]) fun _ _ _ _ _ _ us hl => match us, hl with | [_, _, _, _], _ => rfl
abbrev N_w_ran : List Str := ["_law_plain_here", "_law_answers", "_law_first", "_law_begin", "_law_mark", "_law_asked_ones", "_law_left", "_law_number", "_law_entry", "_law_many", "_law_action", "_law_more"]
theorem sc_w_ran : FnScope N_w_ran ["_law_plain_here", "_law_answers", "_law_first", "_law_begin"] (defScope s_w_ran) := ⟨rfl, rfl, rfl, by decide +kernel, rfl, by decide +kernel, by decide +kernel⟩
theorem b_w_ran (T : Txt K mg) : Binds K (fdOf K (a_w_ran K)) ["_law_plain_here", "_law_answers", "_law_first", "_law_begin"] [] := (f_w_ran T).binds (ps := ["_law_plain_here", "_law_answers", "_law_first", "_law_begin"]) fun _ _ _ _ _ _ us hl => match us, hl with | [_, _, _, _], _ => rfl
abbrev N_w_run : List Str := ["_law_plain_here", "_law_answers", "_law_mark", "_law_asked_ones"]
theorem sc_w_run : FnScope N_w_run ["_law_plain_here", "_law_answers"] (defScope s_w_run) := ⟨rfl, rfl, rfl, by decide +kernel, rfl, by decide +kernel, by decide +kernel⟩
theorem b_w_run (T : Txt K mg) : Binds K (fdOf K (a_w_run K)) ["_law_plain_here", "_law_answers"] [] := (f_w_run T).binds (ps := ["_law_plain_here", "_law_answers"]) fun _ _ _ _ _ _ us hl => match us, hl with | [_, _], _ => rfl
abbrev N_w_where : List Str := ["_law_plain_here", "_law_answers"]
theorem sc_w_where : FnScope N_w_where ["_law_plain_here", "_law_answers"] (defScope s_w_where) := ⟨rfl, rfl, rfl, by decide +kernel, rfl, by decide +kernel, by decide +kernel⟩
theorem b_w_where (T : Txt K mg) : Binds K (fdOf K (a_w_where K)) ["_law_plain_here", "_law_answers"] [] := (f_w_where T).binds (ps := ["_law_plain_here", "_law_answers"]) fun _ _ _ _ _ _ us hl => match us, hl with | [_, _], _ => rfl
abbrev N_w_rows : List Str := ["_law_plain_here", "_law_answers"]
theorem sc_w_rows : FnScope N_w_rows ["_law_plain_here"] (defScope s_w_rows) := ⟨rfl, rfl, rfl, by decide +kernel, rfl, by decide +kernel, by decide +kernel⟩
theorem b_w_rows (T : Txt K mg) : Binds K (fdOf K (a_w_rows K)) ["_law_plain_here"] [] := (f_w_rows T).binds (ps := ["_law_plain_here"]) fun _ _ _ _ _ _ us hl => match us, hl with | [_], _ => rfl
abbrev N_w_agree : List Str := ["_law_answers", "_law_known_here", "_law_name"]
theorem sc_w_agree : FnScope N_w_agree ["_law_answers", "_law_known_here"] (defScope s_w_agree) := ⟨rfl, rfl, rfl, by decide +kernel, rfl, by decide +kernel, by decide +kernel⟩
theorem b_w_agree (T : Txt K mg) : Binds K (fdOf K (a_w_agree K)) ["_law_answers", "_law_known_here"] [] := (f_w_agree T).binds (ps := ["_law_answers", "_law_known_here"]) fun _ _ _ _ _ _ us hl => match us, hl with | [_, _], _ => rfl
abbrev N_w_settled : List Str := ["_law_rows_here", "_law_known_here", "_law_found", "_law_answers", "_law_where_here"]
theorem sc_w_settled : FnScope N_w_settled ["_law_rows_here", "_law_known_here"] (defScope s_w_settled) := ⟨rfl, rfl, rfl, by decide +kernel, rfl, by decide +kernel, by decide +kernel⟩
theorem b_w_settled (T : Txt K mg) : Binds K (fdOf K (a_w_settled K)) ["_law_rows_here", "_law_known_here"] [] := (f_w_settled T).binds (ps := ["_law_rows_here", "_law_known_here"]) fun _ _ _ _ _ _ us hl => match us, hl with | [_, _], _ => rfl
abbrev N_w_known : List Str := ["_law_row", "_law_rows_here", "_law_names", "_law_known_here", "_law_name"]
theorem sc_w_known : FnScope N_w_known ["_law_row", "_law_rows_here", "_law_names"] (defScope s_w_known) := ⟨rfl, rfl, rfl, by decide +kernel, rfl, by decide +kernel, by decide +kernel⟩
theorem b_w_known (T : Txt K mg) : Binds K (fdOf K (a_w_known K)) ["_law_row", "_law_rows_here", "_law_names"] [] := (f_w_known T).binds (ps := ["_law_row", "_law_rows_here", "_law_names"]) fun _ _ _ _ _ _ us hl => match us, hl with | [_, _, _], _ => rfl
abbrev N_w_broken : List Str := ["_law_plain_here", "_law_vows", "_law_rows_here", "_law_names", "_law_k", "_law_here", "_law_name"]
theorem sc_w_broken : FnScope N_w_broken ["_law_plain_here", "_law_vows"] (defScope s_w_broken) := ⟨rfl, rfl, rfl, by decide +kernel, rfl, by decide +kernel, by decide +kernel⟩
theorem b_w_broken (T : Txt K mg) : Binds K (fdOf K (a_w_broken K)) ["_law_plain_here", "_law_vows"] [] := (f_w_broken T).binds (ps := ["_law_plain_here", "_law_vows"]) fun _ _ _ _ _ _ us hl => match us, hl with | [_, _], _ => rfl
abbrev N_w_index : List Str := ["_law_work", "e"]
theorem sc_w_index : FnScope N_w_index ["_law_work"] (defScope s_w_index) := ⟨rfl, rfl, rfl, by decide +kernel, rfl, by decide +kernel, by decide +kernel⟩
theorem b_w_index (T : Txt K mg) : Binds K (fdOf K (a_w_index K)) ["_law_work"] [] := (f_w_index T).binds (ps := ["_law_work"]) fun _ _ _ _ _ _ us hl => match us, hl with | [_], _ => rfl
abbrev N_w_eight : List Str := ["_law_found", "_law_own", "_law_hidden"]
theorem sc_w_eight : FnScope N_w_eight [] (defScope s_w_eight) := ⟨rfl, rfl, rfl, by decide +kernel, rfl, by decide +kernel, by decide +kernel⟩
theorem b_w_eight (T : Txt K mg) : Binds K (fdOf K (a_w_eight K)) [] [] := (f_w_eight T).binds (ps := []) fun _ _ _ _ _ _ us hl => match us, hl with | [], _ => rfl
abbrev N_w_promised : List Str := ["_law_desk", "_law_known_here", "_law_word", "_law_vows"]
theorem sc_w_promised : FnScope N_w_promised ["_law_desk", "_law_known_here", "_law_word", "_law_vows"] (defScope s_w_promised) := ⟨rfl, rfl, rfl, by decide +kernel, rfl, by decide +kernel, by decide +kernel⟩
theorem b_w_promised (T : Txt K mg) : Binds K (fdOf K (a_w_promised K)) ["_law_desk", "_law_known_here", "_law_word", "_law_vows"] [] := (f_w_promised T).binds (ps := ["_law_desk", "_law_known_here", "_law_word", "_law_vows"]) fun _ _ _ _ _ _ us hl => match us, hl with | [_, _, _, _], _ => rfl
abbrev N_w_tried : List Str := ["_law_desk", "_law_past", "_law_plain_here", "_law_vows"]
theorem sc_w_tried : FnScope N_w_tried ["_law_desk", "_law_past"] (defScope s_w_tried) := ⟨rfl, rfl, rfl, by decide +kernel, rfl, by decide +kernel, by decide +kernel⟩
theorem b_w_tried (T : Txt K mg) : Binds K (fdOf K (a_w_tried K)) ["_law_desk", "_law_past"] [] := (f_w_tried T).binds (ps := ["_law_desk", "_law_past"]) fun _ _ _ _ _ _ us hl => match us, hl with | [_, _], _ => rfl
abbrev N_law : List Str := ["_law_script", "_law_row", "_law_plain_here", "_law_desk", "_law_vows", "_law_past", "_law_turn", "_law_known_here", "_law_rows_here", "_law_way", "_law_word", "_law_due", "_law_index_here", "_law_new", "_law_broken_here", "_law_prober"]
theorem sc_law : FnScope N_law ["_law_script"] (defScope s_law) := ⟨rfl, rfl, rfl, by decide +kernel, rfl, by decide +kernel, by decide +kernel⟩
theorem b_law (T : Txt K mg) : Binds K (fdOf K (a_law K)) ["_law_script"] [] := (f_law T).binds (ps := ["_law_script"]) fun _ _ _ _ _ _ us hl => match us, hl with | [_], _ => rfl
end
end Lg
/-! Lg1 -/
set_option maxHeartbeats 4000000
namespace Lg
open PySem L2
section
variable {X : Cx}
theorem pe_gi {x : Str} {i : Int} {pos : Pos} (hg : Gl X x) (h : ∃ t, X.mg x = some (.int i t)) (hd : (x == ("__debug__" : Str)) = false := by decide) : PE X (.Name x pos) (tC (.int i)) := by
  obtain ⟨t, h⟩ := h
  exact pe_glob hg h ⟨t, rfl⟩ hd
theorem pe_gs {x z : Str} {pos : Pos} (hg : Gl X x) (h : ∃ t, X.mg x = some (.str z t)) (hd : (x == ("__debug__" : Str)) = false := by decide) : PE X (.Name x pos) (tC (.str z)) := by
  obtain ⟨t, h⟩ := h
  exact pe_glob hg h ⟨t, rfl⟩ hd
theorem pe_gr {x : Str} {a : Addr} {pos : Pos} (hg : Gl X x) (h : X.mg x = some (.ref a)) (hd : (x == ("__debug__" : Str)) = false := by decide) : PE X (.Name x pos) (tC (.ref a)) := pe_glob hg h rfl hd
theorem pe_ty {x : Str} {n : String} {pos : Pos} (hg : Gl X x) (h : X.mg x = none) (hv : bootBuiltins x = some (.type n)) (hn : x ≠ "__name__" := by decide) (hd : (x == ("__debug__" : Str)) = false := by decide) : PE X (.Name x pos) (tC (.ty n)) :=
  pe_bltn hg h hv rfl hn hd
/-- + of ints, lists, tuples -/
def rAddU (K : PySem.W.Frag) : R2 := fun x y H Q => rI0 (fun i j => .int (i + j)) x y H Q ∨ rCat x y H Q ∨ rCatA K x y H Q
theorem op_addU : OpR X (binaryOp .Add) (rAddU X.K) := OpR.or op_add (OpR.or op_cat op_catA)
/-- isinstance, answered -/
theorem isi_ty {K : PySem.W.Frag} {H : Hp} {x : V} {a T : String} {b : Bool} {Q : VK} (ty : TyX K H x (.type a)) (h : kitB a T = some b) (q : Q (.bl b) H) : rIsi K [x, .ty T] H Q := ⟨x, .ty T, _, _, b, rfl, .ty T, ty, kit_ty h, q⟩
theorem isi_own {K : PySem.W.Frag} {mg : Str → Option Value} {H : Hp} {a C D dx : Addr} {fs : List (Str × V)} {b : Bool} {Q : VK} (T : Txt K mg) (e : H a = some (.ins C dx fs)) (cl : Cls K C)
    (ic : PySem.W.findIn K (.ref C) "__class__" = some (some (.builtin "object.__class__"))) (im : PySem.W.mroIn K C (.type "object") = some true) (h : PySem.W.kitOne K (.ref C) (.ref D) = some b) (q : Q (.bl b) H) :
    rIsi K [.ref a, .ref D] H Q := ⟨.ref a, .ref D, _, _, b, rfl, .own D, .base (.ins e cl ic (ig_ T) (it_ T) im), h, q⟩
theorem tyTup {K : PySem.W.Frag} {H : Hp} {a : Addr} {xs : List V} (h : SqT K H a xs) : TyX K H (.ref a) (.type "tuple") := by
  rcases h with (h | ⟨o, h⟩) | ⟨o, its, n, h, hc, _⟩
  · exact .base (.tup h)
  · exact .fTuple h
  · exact .kTuple h hc
theorem tyLst {K : PySem.W.Frag} {H : Hp} {a : Addr} {xs : List V} (h : H a = some (.lst xs)) : TyX K H (.ref a) (.type "list") := .base (.lst h)
theorem PI.or {tg it : Expr} {w1 w2 : TI} (h1 : PI X tg it w1) (h2 : PI X tg it w2) : PI X tg it (fun σ H R => w1 σ H R ∨ w2 σ H R) := ⟨fun pins s σ H R I h => h.elim (h1.run pins s σ H R I) (h2.run pins s σ H R I)⟩
theorem pi_seq {tg l : Expr} {tl : TE} (hl : PE X l tl) : PI X tg l (fun σ H R => iList X.K tl σ H R ∨ iTup X.K tl σ H R) := PI.or (pi_list hl) (pi_tup hl)
theorem pi_tupB {tg l : Expr} {tl : TE} (K : PySem.W.Frag) (hl : PE X l tl) (hK : X.K = K := by rfl) : PI X tg l (iTup K tl) := by
  subst hK
  exact pi_tup hl
theorem pi_listB {tg l : Expr} {tl : TE} (K : PySem.W.Frag) (hl : PE X l tl) (hK : X.K = K := by rfl) : PI X tg l (iList K tl) := by
  subst hK
  exact pi_list hl
theorem pe_fldB {e : Expr} {ta : TE} {f : Str} {pos : Pos} (K : PySem.W.Frag) (he : PE X e ta) (hb : attributeBase e f X.env (eval e X.env) = eval e X.env) (hK : X.K = K := by rfl) : PE X (.Attribute e f pos) (tFld K ta f) := by
  subst hK
  exact pe_fld he hb
theorem opB {f : Value → Value → Sem Value} {r : PySem.W.Frag → R2} (K : PySem.W.Frag) (h : OpR X f (r X.K)) (hK : X.K = K := by rfl) : OpR X f (r K) := by
  subst hK
  exact h
theorem ixB {r : PySem.W.Frag → R2} (K : PySem.W.Frag) (h : IxR X (r X.K)) (hK : X.K = K := by rfl) : IxR X (r K) := by
  subst hK
  exact h
theorem callB {f : Value} {r : PySem.W.Frag → List V → Hp → VK → Prop} (K : PySem.W.Frag) (h : CallR X f (r X.K)) (hK : X.K = K := by rfl) : CallR X f (r K) := by
  subst hK
  exact h
theorem pg_tupB {elts : List Expr} {x1 : Nat} {pos : Pos} {t : TGs} (K : PySem.W.Frag) (n : Nat) (hc : X.calm = true) (h : PGs X elts t) (hn : (assignEach elts X.env).length = n := by rfl) (hst : (assignEach elts X.env).findIdx? (·.1) = none := by rfl) (hK : X.K = K := by rfl) : PG X (.Tuple elts x1 pos) (gTup K n t) := by
  subst hK
  exact pg_tup hc h hn hst
end
end Lg
/-! LgM -/
set_option maxHeartbeats 4000000
namespace Lg
open PySem L2
/-- a rule: its module, its four actions (texts, or ints for jumps) -/
abbrev Ru := Str × List V
/-- an entry: a rule, or a stack of rules -/
inductive En where
  | r (x : Ru)
  | s (xs : List Ru)
  deriving DecidableEq
def En.rules : En → List Ru
  | .r x => [x]
  | .s xs => xs
def rulesOf (es : List En) : List Ru := es.flatMap En.rules
/-- an action that is none of the words' is a jump -/
def okAct : V → Bool
  | .str x => x == "ok" || x == "bad" || x == "die" || x == "done" || x == "ignore" || x == "reset"
  | .int i => decide (1 ≤ i ∧ i ≤ 9)
  | _ => false
def okMod (x : Str) : Bool := decide (1 ≤ x.length) && decide (x.length ≤ 8) && x.cps.toList.all fun c => decide (97 ≤ c ∧ c ≤ 122)
def okRu (x : Ru) : Bool := okMod x.1 && decide (x.2.length = 4) && x.2.all okAct
def ltS (a b : Str) : Bool := decide (a.cps.toList < b.cps.toList)
def insS (x : Str) : List Str → List Str
  | [] => [x]
  | y :: ys => if ltS x y = true then x :: y :: ys else if x = y then y :: ys else y :: insS x ys
def sortS (xs : List Str) : List Str := xs.foldr insS []
abbrev SortedS (xs : List Str) : Prop := xs.Pairwise fun a b => ltS a b = true
theorem str_ext {a b : Str} (h : a.cps.toList = b.cps.toList) : a = b := by
  obtain ⟨a⟩ := a
  obtain ⟨b⟩ := b
  have : a = b := by
    apply Array.ext'
    exact h
  rw [this]
theorem ltS_irrefl (a : Str) : ltS a a = false := decide_eq_false (List.lt_irrefl _)
theorem ltS_trans {a b c : Str} (h1 : ltS a b = true) (h2 : ltS b c = true) : ltS a c = true :=
  decide_eq_true (List.lt_trans (of_decide_eq_true h1) (of_decide_eq_true h2))
theorem ltS_tri (a b : Str) : ltS a b = true ∨ a = b ∨ ltS b a = true := by
  by_cases h : ltS a b = true
  · exact .inl h
  · by_cases k : ltS b a = true
    · exact .inr (.inr k)
    · refine .inr (.inl (str_ext ?_))
      have h1 : ¬ a.cps.toList < b.cps.toList := fun z => h (decide_eq_true z)
      have h2 : ¬ b.cps.toList < a.cps.toList := fun z => k (decide_eq_true z)
      exact List.le_antisymm h2 h1
theorem ltS_asymm {a b : Str} (h : ltS a b = true) : ltS b a = false := by
  cases k : ltS b a with
  | false => rfl
  | true =>
    have := ltS_trans h k
    rw [ltS_irrefl] at this
    cases this
theorem mem_insS {x z : Str} : ∀ {ys : List Str}, z ∈ insS x ys ↔ z = x ∨ z ∈ ys
  | [] => by simp [insS]
  | y :: ys => by
    unfold insS
    by_cases h : ltS x y = true
    · rw [if_pos h]; simp
    · rw [if_neg h]
      by_cases e : x = y
      · rw [if_pos e]
        subst e
        simp
      · rw [if_neg e, List.mem_cons, mem_insS (ys := ys), List.mem_cons]
        constructor
        · rintro (h | h | h)
          · exact .inr (.inl h)
          · exact .inl h
          · exact .inr (.inr h)
        · rintro (h | h | h)
          · exact .inr (.inl h)
          · exact .inl h
          · exact .inr (.inr h)
theorem sorted_insS {x : Str} : ∀ {ys : List Str}, SortedS ys → SortedS (insS x ys)
  | [], _ => by simp [insS]
  | y :: ys, h => by
    obtain ⟨h1, h2⟩ := List.pairwise_cons.mp h
    unfold insS
    by_cases k : ltS x y = true
    · rw [if_pos k]
      refine List.pairwise_cons.mpr ⟨fun z hz => ?_, h⟩
      rcases List.mem_cons.mp hz with rfl | hz
      · exact k
      · exact ltS_trans k (h1 z hz)
    · rw [if_neg k]
      by_cases e : x = y
      · rw [if_pos e]; exact h
      · rw [if_neg e]
        refine List.pairwise_cons.mpr ⟨fun z hz => ?_, sorted_insS h2⟩
        rcases mem_insS.mp hz with rfl | hz
        · rcases ltS_tri z y with q | q | q
          · exact absurd q k
          · exact absurd q e
          · exact q
        · exact h1 z hz
theorem mem_sortS {x : Str} : ∀ {xs : List Str}, x ∈ sortS xs ↔ x ∈ xs
  | [] => by simp [sortS]
  | y :: ys => by
    show x ∈ insS y (sortS ys) ↔ _
    rw [mem_insS, mem_sortS (xs := ys), List.mem_cons]
theorem sorted_sortS : ∀ xs : List Str, SortedS (sortS xs)
  | [] => List.Pairwise.nil
  | y :: ys => sorted_insS (sorted_sortS ys)
/-- two such lists of the same members are one -/
theorem sorted_same : ∀ {xs ys : List Str}, SortedS xs → SortedS ys → (∀ z, z ∈ xs ↔ z ∈ ys) → xs = ys
  | [], [], _, _, _ => rfl
  | [], y :: ys, _, _, h => absurd ((h y).mpr List.mem_cons_self) (by simp)
  | x :: xs, [], _, _, h => absurd ((h x).mp List.mem_cons_self) (by simp)
  | x :: xs, y :: ys, hx, hy, h => by
    obtain ⟨x1, x2⟩ := List.pairwise_cons.mp hx
    obtain ⟨y1, y2⟩ := List.pairwise_cons.mp hy
    have e : x = y := by
      rcases List.mem_cons.mp ((h x).mp List.mem_cons_self) with e | e
      · exact e
      · rcases List.mem_cons.mp ((h y).mpr List.mem_cons_self) with q | q
        · exact q.symm
        · have a1 := y1 x e
          have a2 := x1 y q
          rw [ltS_asymm a1] at a2
          cases a2
    subst e
    rw [sorted_same x2 y2 fun z => ?_]
    constructor
    · intro hz
      rcases List.mem_cons.mp ((h z).mp (List.mem_cons_of_mem _ hz)) with e | e
      · subst e
        have := x1 z hz
        rw [ltS_irrefl] at this
        cases this
      · exact e
    · intro hz
      rcases List.mem_cons.mp ((h z).mpr (List.mem_cons_of_mem _ hz)) with e | e
      · subst e
        have := y1 z hz
        rw [ltS_irrefl] at this
        cases this
      · exact e
theorem sortS_eq {xs ys : List Str} (h : SortedS ys) (m : ∀ z, z ∈ ys ↔ z ∈ xs) : ys = sortS xs := sorted_same h (sorted_sortS xs) fun z => by rw [m, mem_sortS]
theorem sortS_congr {xs ys : List Str} (m : ∀ z, z ∈ ys ↔ z ∈ xs) : sortS ys = sortS xs := sortS_eq (sorted_sortS ys) fun z => by rw [mem_sortS, m]
def modsOf (es : List En) : List Str := sortS ((rulesOf es).map (·.1))
abbrev Ans := List (Str × Str)
def results : List Str := ["yes", "no", "skip", "gone"]
/-- all answers, in order; the dicts have the names' order -/
def allAns (names : List Str) : List Ans := names.foldl (fun found name => found.flatMap fun a => results.map fun r => a ++ [(name, r)]) [[]]
def get (a : Ans) (x : Str) : Str := (a.lookup x).getD "yes"
/-- the mark: what it is, the rule that made it bad -/
inductive Mk0 where
  | none
  | good
  | bad (n : Int)
  deriving DecidableEq
def ixRes (r : Str) : Nat := if r = "yes" then 0 else if r = "no" then 1 else if r = "skip" then 2 else 3
def actOf (x : Ru) (r : Str) : V := x.2.getD (ixRes r) .non
def isW (v : V) (x : String) : Bool := decide (v = .str (PySem.Str.ofString x))
def markd (a : V) (m b : Mk0) (n : Int) : Mk0 :=
  if isW a "ok" || isW a "done" then (match m with | .none => .good | _ => m)
  else if isW a "bad" || isW a "die" then (match m with | .bad _ => m | _ => .bad n)
  else if isW a "reset" then b else m
/-- whether the stack ends behind the action -/
def stopsAt (a : V) (m : Mk0) : Bool := isW a "die" || (isW a "done" && decide (m = .good))
def jumpOf : V → Nat
  | .int i => i.toNat
  | _ => 0
/-- a stack of rules: the mark behind it; left: how many are left out; n: the number of the next rule; b: the mark it began with -/
def runR (a : Ans) (b : Mk0) : List Ru → Nat → Int → Mk0 → Mk0
  | [], _, _, m => m
  | _ :: xs, l + 1, n, m => runR a b xs l (n + 1) m
  | x :: xs, 0, n, m =>
    let act := actOf x (get a x.1)
    let m' := markd act m b n
    if stopsAt act m' = true then m' else runR a b xs (jumpOf act) (n + 1) m'
def runE (a : Ans) (b : Mk0) : List En → Nat → Int → Mk0 → Mk0
  | [], _, _, m => m
  | e :: es, l + 1, n, m => runE a b es l (n + e.rules.length) m
  | .s xs :: es, 0, n, m => runE a b es 0 (n + xs.length) (runR a m xs 0 n m)
  | .r x :: es, 0, n, m =>
    let act := actOf x (get a x.1)
    let m' := markd act m b n
    if stopsAt act m' = true then m' else runE a b es (jumpOf act) (n + 1) m'
def leads (es : List En) (a : Ans) : Str := if runE a .none es 0 0 .none = .good then "in" else "out"
abbrev Rows := List (Ans × Str)
def rowsOf (es : List En) : Rows := (allAns (modsOf es)).map fun a => (a, leads es a)
def agree (a known : Ans) : Bool := known.all fun k => get a k.1 == k.2
def settle (rows : Rows) (known : Ans) : Str :=
  match sortS ((rows.filter fun r => agree r.1 known).map (·.2)) with
  | [x] => x
  | _ => "open"
abbrev Vows := List (Ans × Str)
def here (names : List Str) (known : Ans) : Ans := known.filter fun k => names.contains k.1
/-- the first promise that a stack breaks -/
def brokenAt (es : List En) : Vows → Nat → Option Nat
  | [], _ => none
  | v :: vs, k => if settle (rowsOf es) (here (modsOf es) v.1) != v.2 then some k else brokenAt es vs (k + 1)
def broken (es : List En) (vs : Vows) : Option Nat := brokenAt es vs 0
end Lg
/-! LgR -/
set_option maxHeartbeats 4000000
namespace Lg
open PySem L2
section
variable (K : PySem.W.Frag)
def rRule (x : Ru) : Rp := fun v B => ∃ a dx t, v = .ref a ∧ B a = some (.ins (c_Rule K) dx [("asks", .str x.1), ("acts", .ref t)]) ∧ SqT K B t x.2
/-- a stack: its entries, its rules, the names of its modules, its depth -/
def rStackOf (ents : List Rp) (rs : List Ru) (ms : List Str) (d : Int) : Rp := fun v B => ∃ a dx p s n vs ws, v = .ref a ∧ B a = some (.ins (c_Stack K) dx [("parts", .ref p), ("steps", .ref s), ("names", .ref n), ("depth", .int d)]) ∧
  SqT K B p vs ∧ PairR ents vs B ∧ SqT K B s ws ∧ PairR (rs.map (rRule K)) ws B ∧ SqT K B n (ms.map V.str)
def modsR (xs : List Ru) : List Str := sortS (xs.map (·.1))
def rFlat (xs : List Ru) : Rp := rStackOf K (xs.map (rRule K)) xs (modsR xs) 1
def rEn : En → Rp
  | .r x => rRule K x
  | .s xs => rFlat K xs
def depthE : En → Int
  | .r _ => 1
  | .s _ => 2
def depthOf (es : List En) : Int := es.foldl (fun d e => if depthE e > d then depthE e else d) 1
def rStack (es : List En) : Rp := rStackOf K (es.map (rEn K)) (rulesOf es) (modsOf es) (depthOf es)
/-- the law's own form -/
def rRuL (x : Ru) : Rp := fun v B => ∃ a t, v = .ref a ∧ SqT K B a [.str x.1, .ref t] ∧ SqT K B t x.2
def rEnL : En → Rp
  | .r x => rRuL K x
  | .s xs => RLst (xs.map (rRuL K))
def rPlain (es : List En) : Rp := RLst (es.map (rEnL K))
def rAns (a : Ans) : Rp := RDic (a.map fun k => (Sum.inr k.1, V.str k.2))
def rMark (m : Mk0) : Rp := fun v B => ∃ p, v = .ref p ∧ SqT K B p (match m with
  | .none => [.str "none", .non]
  | .good => [.str "good", .non]
  | .bad n => [.str "bad", .int n])
end
section
variable {K : PySem.W.Frag}
theorem mono_rule (x : Ru) : Mono (rRule K x) := fun _ _ _ s ⟨a, dx, t, e, h, k⟩ => ⟨a, dx, t, e, s _ _ h, sqT_same s k⟩
theorem mono_stackOf {ents : List Rp} {rs : List Ru} {ms : List Str} {d : Int} (m : ∀ R ∈ ents, Mono R) : Mono (rStackOf K ents rs ms d) := fun _ _ _ s ⟨a, dx, p, st, n, vs, ws, e, h, h1, h2, h3, h4, h5⟩ =>
  ⟨a, dx, p, st, n, vs, ws, e, s _ _ h, sqT_same s h1, h2.mono s m, sqT_same s h3, h4.mono s (mem_map_mono mono_rule), sqT_same s h5⟩
theorem mono_flat (xs : List Ru) : Mono (rFlat K xs) := mono_stackOf (mem_map_mono mono_rule)
theorem mono_en : ∀ e : En, Mono (rEn K e)
  | .r x => mono_rule x
  | .s xs => mono_flat xs
theorem mono_stack (es : List En) : Mono (rStack K es) := mono_stackOf (mem_map_mono mono_en)
theorem mono_ruL (x : Ru) : Mono (rRuL K x) := fun _ _ _ s ⟨a, t, e, h, k⟩ => ⟨a, t, e, sqT_same s h, sqT_same s k⟩
theorem mono_enL : ∀ e : En, Mono (rEnL K e)
  | .r x => mono_ruL x
  | .s _ => mono_lst (mem_map_mono mono_ruL)
theorem mono_plain (es : List En) : Mono (rPlain K es) := mono_lst (mem_map_mono mono_enL)
theorem mono_ans (a : Ans) : Mono (rAns a) := mono_dic _
theorem mono_mark (m : Mk0) : Mono (rMark K m) := fun _ _ _ s ⟨p, e, h⟩ => ⟨p, e, sqT_same s h⟩
end
/-- handed back: something of R, all else as it was -/
def Ret (B H : Hp) (R : Rp) (Q : VK) : Prop := ∀ v B' H', Gr M0 B H B' H' → R v B' → Q v H'
abbrev RV (x : V) : Rp := fun v _ => v = x
end Lg
/-! LgC -/
set_option maxHeartbeats 4000000
namespace Lg
open PySem L2
theorem sqL_B {K : PySem.W.Frag} {M : Addr → Prop} {B1 H1 B H : Hp} {a : Addr} {xs : List V} (g : Gr M B1 H1 B H) (h : B1 a = some (.lst xs)) : SqL K H a xs := SqL.of (g.sub _ _ (g.base _ _ h))
theorem sqT_B {K : PySem.W.Frag} {M : Addr → Prop} {B1 H1 B H : Hp} {a : Addr} {xs : List V} (g : Gr M B1 H1 B H) (h : SqT K B1 a xs) : SqT K H a xs := sqT_same (g.base.trans g.sub) h
theorem line_lt {n : Nat} (h : n ≤ 1000000) : n < sizeLine := Nat.lt_of_le_of_lt h (by decide)
theorem line_le {n : Nat} (h : n ≤ 1000000) : n ≤ sizeLine := Nat.le_of_lt (line_lt h)
section
variable {K : PySem.W.Frag} {a : Addr} {xs : List V} {M : Addr → Prop} {tt : TT} {te : TE} {vs : List Nat} {σ : L2.St} {B1 H1 : Hp} {D : Addr} {Qd : Hp → Prop} {j : Nat} {g : TG}
theorem lc_L (sel : Nat → Option Rp) (s1 : Same B1 H1) (hx : B1 a = some (.lst xs)) (hD : H1 D = none) (hM : MOk M B1 H1) (hn : xs.length < sizeLine) (hm : ∀ i R, sel i = some R → Mono R)
    (step : ∀ i x B H, xs[i]? = some x → Gr M B1 H1 B H → ∀ (Ky : V → Hp → Prop) (Kn : Hp → Prop), (∀ R, sel i = some R → ∀ y B2 H2, Gr M B H B2 H2 → R y B2 → Ky y H2) → (sel i = none → ∀ B2 H2, Gr M B H B2 H2 → Kn H2) →
      g x (wipe σ vs) H fun σ2 H2 => wipe σ2 vs = wipe σ vs ∧ tt σ2 H2 fun b H3 => if b = true then te σ2 H3 Ky else Kn H3)
    (hd : ∀ ys B H, Gr M B1 H1 B H → B D = some (.lst ys) → PairR (selN sel xs.length) ys B → Qd H) :
    ∃ W : Nat → Nat → Hp → Prop, (∃ m, W 0 m (upd H1 D (.lst []))) ∧ ∀ i m H, W i m H →
      ((Itl K a).stop i H ∧ Qd H) ∨ ((Itl K a).go i H ∧ ∃ Nx : Hp → Prop, (∀ H', Nx H' → ∃ m', m' < m ∧ W (i + 1) m' H') ∧ ∀ x H', (Itl K a).yld i H x H' → g x (wipe σ vs) H' fun σ2 H2 => wipe σ2 vs = wipe σ vs ∧ tt σ2 H2 fun b H3 =>
        if b = true then te σ2 H3 fun y H4 => ∃ acc, H4 D = some (.lst acc) ∧ acc.length < sizeLine ∧ Nx (upd H4 D (.lst (acc ++ [y]))) else Nx H3) :=
  lc_sel (walk_list (K := K) (a := a) (xs := xs)) sel s1 hD hM hn (fun B H g => sqL_B g hx) hm (fun i x B H H' hi g hy => by
    obtain ⟨rfl, hxi⟩ := hy
    exact step i x B _ hxi g) hd
theorem lc_T (sel : Nat → Option Rp) (s1 : Same B1 H1) (hx : SqT K B1 a xs) (hD : H1 D = none) (hM : MOk M B1 H1) (hn : xs.length < sizeLine) (hm : ∀ i R, sel i = some R → Mono R)
    (step : ∀ i x B H, xs[i]? = some x → Gr M B1 H1 B H → ∀ (Ky : V → Hp → Prop) (Kn : Hp → Prop), (∀ R, sel i = some R → ∀ y B2 H2, Gr M B H B2 H2 → R y B2 → Ky y H2) → (sel i = none → ∀ B2 H2, Gr M B H B2 H2 → Kn H2) →
      g x (wipe σ vs) H fun σ2 H2 => wipe σ2 vs = wipe σ vs ∧ tt σ2 H2 fun b H3 => if b = true then te σ2 H3 Ky else Kn H3)
    (hd : ∀ ys B H, Gr M B1 H1 B H → B D = some (.lst ys) → PairR (selN sel xs.length) ys B → Qd H) :
    ∃ W : Nat → Nat → Hp → Prop, (∃ m, W 0 m (upd H1 D (.lst []))) ∧ ∀ i m H, W i m H →
      ((Itt K a).stop i H ∧ Qd H) ∨ ((Itt K a).go i H ∧ ∃ Nx : Hp → Prop, (∀ H', Nx H' → ∃ m', m' < m ∧ W (i + 1) m' H') ∧ ∀ x H', (Itt K a).yld i H x H' → g x (wipe σ vs) H' fun σ2 H2 => wipe σ2 vs = wipe σ vs ∧ tt σ2 H2 fun b H3 =>
        if b = true then te σ2 H3 fun y H4 => ∃ acc, H4 D = some (.lst acc) ∧ acc.length < sizeLine ∧ Nx (upd H4 D (.lst (acc ++ [y]))) else Nx H3) :=
  lc_sel (walk_tup (K := K) (a := a) (xs := xs)) sel s1 hD hM hn (fun B H g => sqT_B g hx) hm (fun i x B H H' hi g hy => by
    obtain ⟨rfl, hxi⟩ := hy
    exact step i x B _ hxi g) hd
/-- kept by a list of what they stand for -/
theorem sel_of {Rs : List Rp} {i : Nat} {R : Rp} (hm : ∀ R ∈ Rs, Mono R) (h : Rs[i]? = some R) : Mono R := hm R (List.mem_of_getElem? h)
end
/-- two loops: the outer's turns -/
theorem lc2_it {J : It} {n : Nat} {G : Hp → Prop} {Y : Nat → Hp → V → Hp → Prop} (w : Walk J n G Y) {g g1 : TG} {tt tt1 : TT} {wi1 : TI} {te : TE} {vs vs1 : List Nat} {σ : L2.St} {H1 : Hp} {D : Addr} {Qd : Hp → Prop} (Pv : Nat → Hp → Prop) (h0 : Pv 0 (upd H1 D (.lst []))) (hG : ∀ i H, i ≤ n → Pv i H → G H)
    (hs : ∀ i x H H', i < n → Pv i H → Y i H x H' → g x (wipe σ vs) H' fun σ2 H2 => wipe σ2 vs = wipe σ vs ∧ tt σ2 H2 fun b H3 =>
      if b = true then wi1 σ2 H3 fun J1 H4 => ∃ W1 : Nat → Nat → Hp → Prop, (∃ m, W1 0 m H4) ∧ ∀ j k H, W1 j k H →
        (J1.stop j H ∧ Pv (i + 1) H) ∨ (J1.go j H ∧ ∃ Nx1 : Hp → Prop, (∀ H', Nx1 H' → ∃ k', k' < k ∧ W1 (j + 1) k' H') ∧ ∀ x H', J1.yld j H x H' → g1 x (wipe σ2 vs1) H' fun σ3 H5 => wipe σ3 vs1 = wipe σ2 vs1 ∧ tt1 σ3 H5 fun b H6 =>
          if b = true then te σ3 H6 fun y H7 => ∃ acc, H7 D = some (.lst acc) ∧ acc.length < sizeLine ∧ Nx1 (upd H7 D (.lst (acc ++ [y]))) else Nx1 H6)
      else Pv (i + 1) H3) (hd : ∀ H, Pv n H → Qd H) :
    ∃ W : Nat → Nat → Hp → Prop, (∃ m, W 0 m (upd H1 D (.lst []))) ∧ ∀ i m H, W i m H →
      (J.stop i H ∧ Qd H) ∨ (J.go i H ∧ ∃ Nx : Hp → Prop, (∀ H', Nx H' → ∃ m', m' < m ∧ W (i + 1) m' H') ∧ ∀ x H', J.yld i H x H' → g x (wipe σ vs) H' fun σ2 H2 => wipe σ2 vs = wipe σ vs ∧ tt σ2 H2 fun b H3 =>
        if b = true then wi1 σ2 H3 fun J1 H4 => ∃ W1 : Nat → Nat → Hp → Prop, (∃ m, W1 0 m H4) ∧ ∀ j k H, W1 j k H →
          (J1.stop j H ∧ Nx H) ∨ (J1.go j H ∧ ∃ Nx1 : Hp → Prop, (∀ H', Nx1 H' → ∃ k', k' < k ∧ W1 (j + 1) k' H') ∧ ∀ x H', J1.yld j H x H' → g1 x (wipe σ2 vs1) H' fun σ3 H5 => wipe σ3 vs1 = wipe σ2 vs1 ∧ tt1 σ3 H5 fun b H6 =>
            if b = true then te σ3 H6 fun y H7 => ∃ acc, H7 D = some (.lst acc) ∧ acc.length < sizeLine ∧ Nx1 (upd H7 D (.lst (acc ++ [y]))) else Nx1 H6)
        else Nx H3) := by
  refine ⟨fun i m H => m = n - i ∧ i ≤ n ∧ Pv i H, ⟨n, by simp, Nat.zero_le _, h0⟩, ?_⟩
  rintro i m H ⟨rfl, hi, p⟩
  have q := hG i H hi p
  by_cases hlt : i < n
  · exact .inr ⟨w.goes i H hlt q, Pv (i + 1), fun H' p' => ⟨n - (i + 1), by omega, rfl, hlt, p'⟩, fun x H' y => hs i x H H' hlt p (w.yields i H x H' hlt q y)⟩
  · have e : i = n := by omega
    subst e
    exact .inl ⟨w.stops H q, hd H p⟩
/-- .. the inner's -/
theorem lc2_in {J : It} {n : Nat} {G : Hp → Prop} {Y : Nat → Hp → V → Hp → Prop} (w : Walk J n G Y) {g1 : TG} {tt1 : TT} {te : TE} {vs1 : List Nat} {σ2 : L2.St} {H4 : Hp} {D : Addr} {Qd : Hp → Prop} (Pv : Nat → Hp → Prop) (h0 : Pv 0 H4) (hG : ∀ i H, i ≤ n → Pv i H → G H)
    (hs : ∀ j x H H', j < n → Pv j H → Y j H x H' → g1 x (wipe σ2 vs1) H' fun σ3 H5 => wipe σ3 vs1 = wipe σ2 vs1 ∧ tt1 σ3 H5 fun b H6 =>
      if b = true then te σ3 H6 fun y H7 => ∃ acc, H7 D = some (.lst acc) ∧ acc.length < sizeLine ∧ Pv (j + 1) (upd H7 D (.lst (acc ++ [y]))) else Pv (j + 1) H6) (hd : ∀ H, Pv n H → Qd H) :
    ∃ W1 : Nat → Nat → Hp → Prop, (∃ m, W1 0 m H4) ∧ ∀ j k H, W1 j k H →
      (J.stop j H ∧ Qd H) ∨ (J.go j H ∧ ∃ Nx1 : Hp → Prop, (∀ H', Nx1 H' → ∃ k', k' < k ∧ W1 (j + 1) k' H') ∧ ∀ x H', J.yld j H x H' → g1 x (wipe σ2 vs1) H' fun σ3 H5 => wipe σ3 vs1 = wipe σ2 vs1 ∧ tt1 σ3 H5 fun b H6 =>
        if b = true then te σ3 H6 fun y H7 => ∃ acc, H7 D = some (.lst acc) ∧ acc.length < sizeLine ∧ Nx1 (upd H7 D (.lst (acc ++ [y]))) else Nx1 H6) := by
  refine ⟨fun i m H => m = n - i ∧ i ≤ n ∧ Pv i H, ⟨n, by simp, Nat.zero_le _, h0⟩, ?_⟩
  rintro i m H ⟨rfl, hi, p⟩
  have q := hG i H hi p
  by_cases hlt : i < n
  · exact .inr ⟨w.goes i H hlt q, Pv (i + 1), fun H' p' => ⟨n - (i + 1), by omega, rfl, hlt, p'⟩, fun x H' y => hs i x H H' hlt p (w.yields i H x H' hlt q y)⟩
  · have e : i = n := by omega
    subst e
    exact .inl ⟨w.stops H q, hd H p⟩
/-- kept by what the items stand for -/
theorem lc_dat {α : Type} {J : It} {n : Nat} {G : Hp → Prop} {xs : List V} (w : Walk J n G (YAt xs)) {M : Addr → Prop} {g : TG} {tt : TT} {te : TE} {vs : List Nat} {σ : L2.St} {B1 H1 : Hp} {D : Addr} {Qd : Hp → Prop}
    (ds : List α) (p : α → Bool) (R R' : α → Rp) (mR : ∀ d, Mono (R d)) (mR' : ∀ d, Mono (R' d)) (hP : PairR (ds.map R) xs B1) (hn : n = xs.length) (s1 : Same B1 H1) (hD : H1 D = none) (hM : MOk M B1 H1) (hz : ds.length ≤ 1000000) (hG : ∀ B H, Gr M B1 H1 B H → G H)
    (step : ∀ d x B H, d ∈ ds → R d x B → Gr M B1 H1 B H → ∀ (Ky : V → Hp → Prop) (Kn : Hp → Prop), (p d = true → ∀ y B2 H2, Gr M B H B2 H2 → R' d y B2 → Ky y H2) → (p d = false → ∀ B2 H2, Gr M B H B2 H2 → Kn H2) →
      g x (wipe σ vs) H fun σ2 H2 => wipe σ2 vs = wipe σ vs ∧ tt σ2 H2 fun b H3 => if b = true then te σ2 H3 Ky else Kn H3)
    (hd : ∀ ys B H, Gr M B1 H1 B H → B D = some (.lst ys) → PairR ((ds.filter p).map R') ys B → Qd H) :
    ∃ W : Nat → Nat → Hp → Prop, (∃ m, W 0 m (upd H1 D (.lst []))) ∧ ∀ i m H, W i m H →
      (J.stop i H ∧ Qd H) ∨ (J.go i H ∧ ∃ Nx : Hp → Prop, (∀ H', Nx H' → ∃ m', m' < m ∧ W (i + 1) m' H') ∧ ∀ x H', J.yld i H x H' → g x (wipe σ vs) H' fun σ2 H2 => wipe σ2 vs = wipe σ vs ∧ tt σ2 H2 fun b H3 =>
        if b = true then te σ2 H3 fun y H4 => ∃ acc, H4 D = some (.lst acc) ∧ acc.length < sizeLine ∧ Nx (upd H4 D (.lst (acc ++ [y]))) else Nx H3) := by
  have hl : ds.length = xs.length := by have := hP.length; rwa [List.length_map] at this
  have hs := selN_filter ds p R'
  subst hn
  refine lc_sel w (M := M) (B1 := B1) (fun i => (ds[i]?).bind fun d => if p d = true then some (R' d) else none) s1 hD hM (line_lt (by omega)) hG (fun i R2 e => ?_) (fun i x B H H' hi g1 y Ky Kn ky kn => ?_) (fun ys B H g1 h1 hp => ?_)
  · cases q : ds[i]? with
    | none => rw [q] at e; cases e
    | some d =>
      rw [q] at e
      by_cases c : p d = true
      · have e' : (if p d = true then some (R' d) else none) = some R2 := e
        rw [if_pos c] at e'
        cases e'
        exact mR' d
      · have e' : (if p d = true then some (R' d) else none) = some R2 := e
        rw [if_neg c] at e'
        cases e'
  · obtain ⟨rfl, hx⟩ := y
    obtain ⟨R2, hR, hxR⟩ := hP.at_ hx
    rw [List.getElem?_map] at hR
    cases q : ds[i]? with
    | none => rw [q] at hR; cases hR
    | some d =>
      rw [q] at hR
      cases hR
      refine step d x B _ (List.mem_of_getElem? q) (mR d _ _ _ g1.base hxR) g1 Ky Kn (fun c y B2 H2 g2 hy => ky (R' d) ?_ y B2 H2 g2 hy) (fun c B2 H2 g2 => kn ?_ B2 H2 g2)
      · rw [q]
        show (if p d = true then some (R' d) else none) = _
        rw [if_pos c]
      · rw [q]
        show (if p d = true then some (R' d) else none) = _
        rw [if_neg (by rw [c]; decide)]
  · rw [← hl, hs] at hp
    exact hd ys B H g1 h1 hp
theorem filter_all {α : Type} (ds : List α) : ds.filter (fun _ => true) = ds := List.filter_eq_self.mpr fun _ _ => rfl
/-- more objects, not told of -/
theorem Gr.ext {M : Addr → Prop} {B H H' : Hp} (s : Same B H) (e : Same H H') : Gr M B H B H' := ⟨.refl _, s.trans e, fun a o _ h => e a o h, fun a o h => ⟨o, e a o h⟩, fun _ _ h _ => h⟩
/-- a thing that may change has changed -/
theorem Gr.set {M : Addr → Prop} {B H : Hp} {a : Addr} {o : HO} (s : Same B H) (hb : B a = none) (m : M a) : Gr M B H B (upd H a o) := Gr.mut (Gr.refl s) hb (.inr m)
theorem Gr.set' {M : Addr → Prop} {B H B1 H1 : Hp} {a : Addr} {o : HO} (g : Gr M B H B1 H1) (hb : B1 a = none) (m : M a) : Gr M B H B1 (upd H1 a o) := Gr.mut g hb (.inr m)
/-- what was made at a free place and changed there, told of -/
theorem Gr.made {B H B1 H1 : Hp} {x dx : Addr} {o od o' : HO} (s : Same B H) (hx : H x = none) (hd : H dx = none) (hne : dx ≠ x)
    (g : Gr (fun a => a = x) B (upd (upd H dx od) x o) B1 H1) (h1 : H1 x = some o') : Gr M0 B H (upd B1 x o') H1 ∧ (upd B1 x o') x = some o' := by
  have hbx : B1 x = none := g.new x o (s.free hx) upd_same
  have k : ∀ a u, H a = some u → a ≠ x ∧ a ≠ dx := fun a u e => ⟨fun z => (by rw [z, hx] at e; cases e), fun z => (by rw [z, hd] at e; cases e)⟩
  have up : ∀ a u, H a = some u → (upd (upd H dx od) x o) a = some u := fun a u e => by
    rw [upd_ne (k a u e).1, upd_ne (k a u e).2]; exact e
  refine ⟨Gr.tell ⟨g.base, g.sub, fun a u _ e => g.keep a u (k a u e).1 (up a u e), fun a u e => g.there a u (up a u e), fun a u e1 e2 => g.new a u e1 (up a u e2)⟩ hx h1 hbx, upd_same⟩
/-- a thing forgotten -/
def off (B : Hp) (d : Addr) : Hp := fun b => if b = d then none else B b
theorem off_ne {B : Hp} {d b : Addr} (h : b ≠ d) : off B d b = B b := if_neg h
theorem off_same {B : Hp} {d : Addr} : off B d d = none := if_pos rfl
theorem lock_same {B H : Hp} {d : Addr} {o : HO} (s : Same B H) : Same (off B d) (upd H d o) := fun a u e => by
  by_cases h : a = d
  · subst h; rw [off_same] at e; cases e
  · rw [off_ne h] at e; rw [upd_ne h]; exact s a u e
theorem Gr.unlock {M : Addr → Prop} {B H B2 H2 : Hp} {d : Addr} {u o : HO} (s : Same B H) (hb : B d = some u) (m : ¬ M d) (g : Gr M (off B d) (upd H d o) B2 H2) :
    H2 d = some o ∧ Gr M B H (upd B2 d u) (upd H2 d u) := by
  have hB2 : B2 d = none := g.new d o off_same upd_same
  have hH2 : H2 d = some o := g.keep d o m upd_same
  refine ⟨hH2, fun a v e => ?_, fun a v e => ?_, fun a v n e => ?_, fun a v e => ?_, fun a v e1 e2 => ?_⟩
  · by_cases h : a = d
    · subst h; rw [hb] at e; cases e; exact upd_same
    · rw [upd_ne h]; exact g.base a v (by rw [off_ne h]; exact e)
  · by_cases h : a = d
    · subst h; rw [upd_same] at e ⊢; exact e
    · rw [upd_ne h] at e ⊢; exact g.sub a v e
  · by_cases h : a = d
    · subst h; rw [s a u hb] at e; cases e; exact upd_same
    · rw [upd_ne h]; exact g.keep a v n (by rw [upd_ne h]; exact e)
  · by_cases h : a = d
    · subst h; exact ⟨u, upd_same⟩
    · rw [upd_ne h]; exact g.there a v (by rw [upd_ne h]; exact e)
  · have h : a ≠ d := by
      rintro rfl
      rw [hb] at e1; cases e1
    rw [upd_ne h]; exact g.new a v (by rw [off_ne h]; exact e1) (by rw [upd_ne h]; exact e2)
end Lg
/-! Lg2 -/
set_option maxHeartbeats 4000000
namespace PySem
open AutoSeq1 (wpAny_loadPart')
theorem lgEnumNew {v : Value} {o : Obj} {H : Heap → Prop} (B : Begins v o H) :
    Meets (Builtin.«enumerate.__new__» ⟨[.type "enumerate", v], []⟩) (fun _ R s => H s.heap ∧
      R (.ok (.ret (.ref (s.heap.push o).objs.size))) { s with heap := (s.heap.push o).push { cls := .type "enumerate", data := .fields #[.none, .bool false, .ref s.heap.objs.size, rawInt 0, .none, .none] } }) :=
  .of_wp fun prog w A R s h => by
    obtain ⟨hp, g, d, tk, os⟩ := s
    obtain ⟨h1, h⟩ := h
    have hsub := sub_enumerate
    have q1 : ∀ {A' : Around} {E : Value → Shared → Prop} {Q : Value → Shared → Prop}, Q (.ref hp.objs.size) ⟨hp.push o, g, d, tk, os⟩ → wpAny (model prog w) A' (pyIter v) Q E ⟨hp, g, d, tk, os⟩ :=
      fun q => B.iter prog w _ _ ⟨hp, g, d, tk, os⟩ _ h1 q
    wp_walk using q1
    refine wpAny_stack_any fun st => wpAny_pure ?_
    split
    · rename_i c _ _ _ _ _
      cases (c == Value.type "enumerate")
      · wp_walk using q1
        exact ⟨_, rfl, h⟩
      · wp_walk using q1
        exact ⟨_, rfl, h⟩
    · wp_walk using q1
      exact ⟨_, rfl, h⟩
theorem lgEnumCall {prog : Program} {w : World} {A : Around} {E : Value → Shared → Prop} {s : Shared} {v : Value} {o : Obj} {H : Heap → Prop} {Q : Value → Shared → Prop} (B : Begins v o H) (h1 : H s.heap)
    (h : ∀ h', IsEnum h' (s.heap.objs.size + 1) s.heap.objs.size 0 .none → h'.get? s.heap.objs.size = some o → h'.objs.size = s.heap.objs.size + 2 →
      (∀ b o, s.heap.get? b = some o → h'.get? b = some o) → Q (.ref (s.heap.objs.size + 1)) { s with heap := h' }) :
    wpAny (model prog w) A (call (.type "enumerate") [v]) Q E s := by
  refine callType_new F.called_enumerate (by decide) (F.typeCall_enumerate_1 _) (F.newCall_enumerate_1 _) (fun obj => F.args_object_init_2 obj _) F.entry_enumerate_new
    (lgEnumNew B) ⟨h1, ?_⟩
  have hz : (s.heap.push o).objs.size = s.heap.objs.size + 1 := Heap.size_push ..
  show _ ∧ _
  rw [hz]
  have he : IsEnum ((s.heap.push o).push { cls := .type "enumerate", data := .fields #[.none, .bool false, .ref s.heap.objs.size, rawInt 0, .none, .none] }) (s.heap.objs.size + 1) s.heap.objs.size 0 .none := by
    have := Heap.get?_push_size (s.heap.push o) (o := { cls := .type "enumerate", data := .fields #[.none, .bool false, .ref s.heap.objs.size, rawInt 0, .none, .none] }) rfl
    rw [hz] at this
    exact this
  exact ⟨⟨_, he, rfl⟩, h _ he (Heap.get?_push_of_some _ (Heap.get?_push_size _ B.free)) (by rw [Heap.size_push, hz]) fun b o x => Heap.get?_push_of_some _ (Heap.get?_push_of_some _ x)⟩
end PySem
namespace Lg
open PySem PySem.Spec PyProof.Rows L2
def Ite2 (K : PySem.W.Frag) (a : Addr) : It :=
  ⟨fun i H => ∃ (xs : List V) (x : V), SqT K H a xs ∧ xs[i]? = some x, fun i H v H' => ∃ T x, v = .ref T ∧ H T = none ∧ H' = upd H T (.tup [.int (i : Nat), x]) ∧ ∀ xs, SqT K H a xs → xs[i]? = some x, fun i H => ∃ xs : List V, SqT K H a xs ∧ xs.length = i⟩
theorem turn_enum2 {P : Program} {w : World} {K : PySem.W.Frag} {elts : List Expr} {kk : Nat} {tpos : Pos} (a e it : Addr) :
    Turn P w K (.Tuple elts kk tpos) (Ite2 K a) [e, it] e (fun i h => (∃ old, IsEnum h e it ((i : Nat) : Int) old) ∧ h.IsTupleIter it a i ∧ e ≠ it ∧ a ≠ it ∧ a ≠ e) where
  mem := by simp
  obj := fun i h st b hb => by
    obtain ⟨⟨old, he⟩, ⟨o, ho, hc, hd⟩, _⟩ := st
    have e' : b = e ∨ b = it := by simpa using hb
    rcases e' with z | z
    · rw [z]; exact ⟨_, he, fun v q => nomatch q⟩
    · rw [z]; exact ⟨o, ho, fun v q => by rw [hd] at q; cases q⟩
  keep := fun i h h' st k => let ⟨⟨old, he⟩, hi, hne⟩ := st; ⟨⟨old, k e (by simp) _ he⟩, hi.at fun o q => k it (by simp) o q, hne⟩
  item := by
    intro X hP hw hK hc i pins s σ H E I hf st hg
    subst hP hw hK
    obtain ⟨⟨old, he⟩, hit, hne, hai, hae⟩ := st
    obtain ⟨xs, x, hq, hx⟩ := hg
    obtain ⟨its, rv, p, hz⟩ := I.tuple hq
    obtain ⟨u, hu, ru⟩ := rv.get hx
    have hel : e < s.heap.objs.size := Heap.lt_size he
    have hil : it < s.heap.objs.size := by
      obtain ⟨_, q, _⟩ := hit
      exact Heap.lt_size q
    have D := Draws.tuple (prog := X.prog) (w := X.w) (A := X.A.in1) (I.ok.hd hc) it a hai its.toArray
    have hef : e ∉ [it, a] := by
      intro z
      rcases List.mem_cons.mp z with z | z
      · exact hne z
      · exact hae (List.mem_singleton.mp z).symm
    have hlt : i < its.toArray.size := by
      obtain ⟨q, _⟩ := List.getElem?_eq_some_iff.mp hu
      simpa using q
    refine wpAny_pyNext_enum_itemC D he ⟨hit, p⟩ hlt hne hef fun y h' tk hy ho hst' hT hsz hk => ?_
    have hy' : y = u := by
      have : its[i]? = some y := by simpa using hy
      rw [hu] at this
      exact (Option.some.inj this).symm
    subst hy'
    obtain ⟨hit', _⟩ := hst'
    refine ⟨_, rfl, wpAny_letOwnedTupleGo_enum (s := { s with heap := h', toks := tk + 1 }) ho fun h'' he' sb => ?_⟩
    have hT2 : h''.get? s.heap.objs.size = some { cls := .type "tuple", data := .seq #[.int i tk, y] } := (sb.2 _ (Nat.ne_of_gt hel)).trans hT
    have new : ObjOk X.prog X.w (upd H s.heap.objs.size (.tup [.int (i : Nat), x])) h'' s.heap.objs.size (.tup [.int (i : Nat), x]) :=
      ⟨by show 2 ≤ sizeLine; decide, [.int i tk, y], .cons ⟨_, rfl⟩ (.cons ru .nil), ⟨_, hT2, rfl, _, rfl⟩⟩
    have I1 : Inv X pins σ (upd H s.heap.objs.size (.tup [.int (i : Nat), x])) { s with heap := h'', toks := tk + 1 } :=
      I.turnedNew (ch := [e, it]) (fun b ob hb q => (sb.2 b (fun z => hb (by simp [z]))).trans (hk b ob (fun z => hb (by simp [z])) (fun z => hb (by simp [z])) q)) hf (Nat.le_refl _) new
    refine ⟨.ref s.heap.objs.size, _, I1, rfl, ⟨_, x, rfl, I.hok.fresh (Nat.le_refl _), rfl, fun ys hy => by rw [I.tuple_inj hy hq]; exact hx⟩, ⟨⟨y, ?_⟩, hit'.at fun o q => (sb.2 it (Ne.symm hne)).trans q, hne, hai, hae⟩, fun b hb => ?_⟩
    · have e1 : ((i + 1 : Nat) : Int) = (i : Int) + 1 := by omega
      rw [e1]; exact he'
    · have hb' : b < s.heap.objs.size := by
        have e' : b = e ∨ b = it := by simpa using hb
        rcases e' with z | z
        · rw [z]; exact hel
        · rw [z]; exact hil
      rw [upd_ne (Nat.ne_of_lt hb')]
      exact (hf b hb).1
  done := by
    intro X hP hw hK hc i pins s σ H E I hf st hg
    subst hP hw hK
    obtain ⟨⟨old, he⟩, hit, hne, hai, hae⟩ := st
    obtain ⟨xs, hq, hx⟩ := hg
    obtain ⟨its, rv, p, hz⟩ := I.tuple hq
    obtain ⟨f0, f1, f2, f3, f4, f5⟩ := hf it (by simp)
    have hl := rv.length
    have D := Draws.tuple (prog := X.prog) (w := X.w) (A := X.A.in1) (I.ok.hd hc) it a hai its.toArray
    have hi : its.toArray.size = i := by rw [← hx, hl]; simp
    rw [← hi] at hit
    exact wpAny_pyNext_enum_endD D he ⟨hit, p⟩ fun h' eb => ⟨rfl, I.turned (t' := s.toks) (fun b o hb q => eb b o hb q) f0 f1 f3 f4 f5⟩
  self := fun A i s Q E st h => let ⟨⟨_, he⟩, _⟩ := st; wpAny_pyIter_enum he h
def iEnum2 (K : PySem.W.Frag) (ta : TA) : TI := fun σ H R => ta σ H fun vs H1 => ∃ a xs, vs = [.ref a] ∧ SqT K H1 a xs ∧ R (Ite2 K a) H1
theorem pi_enumT {X : Cx} {e : Expr} {ta : TA} {p pos tpos : Pos} {elts : List Expr} {kk : Nat} (hg : Gl X "enumerate") (hm : X.mg "enumerate" = none) (ha : PA X [e] ta) (hs : starEach [e] X.env = [(false, eval e X.env)] := by rfl) :
    PI X (.Tuple elts kk tpos) (.Call (.Name "enumerate" p) [e] [] pos) (iEnum2 X.K ta) := by
  refine ⟨fun pins s σ H R I h => ?_⟩
  refine Call_ (ld_blt I hg hm boot_enumerate (PyProof.Rows.callWith_type1 (thn (ha.run pos pins s σ H _ I h) fun us s1 ⟨vs, H1, I1, r1, q1⟩ => ?_) hs rfl))
  obtain ⟨a, xs, ex, hq, q⟩ := q1
  subst ex
  cases r1 with
  | cons r rr =>
    cases rr
    cases r
    obtain ⟨its, rv, p', hz⟩ := I1.tuple hq
    refine lgEnumCall (begins_tuple a its.toArray) p' fun h' he hit hsz hk => wpAny_pyIter_enum he ?_
    have I2 : Inv X pins σ H1 { s1 with heap := h' } := I1.kept (t' := s1.toks) hk
    have hal : a < s1.heap.objs.size := by
      obtain ⟨o, ho, _⟩ := p'
      exact Heap.lt_size ho
    refine ⟨s1.heap.objs.size + 1, [s1.heap.objs.size + 1, s1.heap.objs.size], _, _, H1, rfl, I2, turn_enum2 a (s1.heap.objs.size + 1) s1.heap.objs.size, ⟨⟨.none, he⟩, ⟨_, hit, rfl, rfl⟩, Nat.succ_ne_self _, Nat.ne_of_lt hal, Nat.ne_of_lt (Nat.lt_succ_of_lt hal)⟩, fun b hb => ?_, q⟩
    have e' : b = s1.heap.objs.size + 1 ∨ b = s1.heap.objs.size := by simpa using hb
    have hle : s1.heap.objs.size ≤ b := by
      rcases e' with z | z
      · rw [z]; exact Nat.le_add_right _ _
      · rw [z]; exact Nat.le_refl _
    exact I1.fpOk hle (I1.hok.fresh hle)
theorem walk_enumT {K : PySem.W.Frag} {a : Addr} {xs : List V} : Walk (Ite2 K a) xs.length (fun H => SqT K H a xs) (YPair (fun i => some (.int (i : Nat))) (fun i => xs[i]?)) := by
  refine ⟨fun i _ hi q => ⟨xs, xs[i], q, by simp [hi]⟩, fun _ q => ⟨xs, q, rfl⟩, fun i H v H' _ q y => ?_⟩
  obtain ⟨T, x, h1, h2, h3, h4⟩ := y
  exact ⟨T, .int (i : Nat), x, h1, h2, h3, rfl, h4 xs q⟩
end Lg
/-! Lg3 -/
set_option maxHeartbeats 4000000
namespace Lg
open PySem PySem.Spec PyProof.Rows L2
abbrev Ents := List (Int × Value)
/-- the set at a, its entries told by G -/
def SetG (w : World) (h : Heap) (a : Addr) (G : Ents → Prop) : Prop :=
  ∃ o es ep t, h.get? a = some o ∧ o.ExactSet ∧ o.data = .set es ep t ∧ G es.toList ∧ es.size < scanBound ∧ t.fits es.size = true ∧ Ris t.place.toList ∧ (w.params.followText "set-order" = true ∨ t.led = true)
theorem SetG.at {w : World} {h h' : Heap} {a : Addr} {G : Ents → Prop} (R : SetG w h a G) (k : ∀ o, h.get? a = some o → h'.get? a = some o) : SetG w h' a G := by
  obtain ⟨o, es, ep, t, ho, r⟩ := R
  exact ⟨o, es, ep, t, k o ho, r⟩
theorem SetG.imp {w : World} {h : Heap} {a : Addr} {G G' : Ents → Prop} (R : SetG w h a G) (i : ∀ l, G l → G' l) : SetG w h a G' := by
  obtain ⟨o, es, ep, t, ho, h1, h2, g, r⟩ := R
  exact ⟨o, es, ep, t, ho, h1, h2, i _ g, r⟩
def freshS (w : World) : Obj := { cls := .type "set", dict := none, data := .set #[] 0 (.fresh 0 0 (!w.params.followText "set-order")) }
theorem SetG.fresh {w : World} {h : Heap} {a : Addr} {G : Ents → Prop} (ho : h.get? a = some (freshS w)) (g : G []) : SetG w h a G :=
  ⟨_, #[], 0, _, ho, ⟨rfl, rfl, rfl⟩, rfl, g, (by decide), (by rfl), List.Pairwise.nil, by
    show _ ∨ (!w.params.followText "set-order") = true
    cases w.params.followText "set-order"
    · exact .inr rfl
    · exact .inl rfl⟩
section
variable {P : Program} {w : World} {A : Around} {E : Value → Shared → Prop} {s : Shared} {a : Addr}
theorem setG_tail {G : Ents → Prop} (gp : ∀ l l' : Ents, l.Perm l' → G l → G l') {g : Bool → Sem Unit} (hg : ∀ (b : Bool) (s₁ : Shared) (Q' : Unit → Shared → Prop), Q' () s₁ → wpAny (model P w) A (g b) Q' E s₁)
    {o : Obj} {es : Array (Int × Value)} {ep : Nat} {t : SetTable} (ho : s.heap.get? a = some o) (hex : o.ExactSet) (hd : o.data = .set es ep t)
    {es1 : Array (Int × Value)} {t2 : SetTable} (g1 : G es1.toList) (hb1 : es1.size < scanBound) (hf2 : t2.fits es1.size = true) (hr : Ris t2.place.toList) (hl : w.params.followText "set-order" = true ∨ t2.led = true) {wasDummy : Bool} {R : Option Bool → Shared → Prop}
    (hR : ∀ h', Heap.SameBut a s.heap h' → SetG w h' a G → R (some true) { s with heap := h' }) :
    wpAny (model P w) A (do
        storeSet a es1 t2
        if (!wasDummy && t2.tooFull) = true then do
            g (relayAll t2 es1 (SetTable.grown es1.size)).2.2
            storeSet a (relayAll t2 es1 (SetTable.grown es1.size)).1 (relayAll t2 es1 (SetTable.grown es1.size)).2.1
            pure (some true)
          else pure (some true)) R E s := by
  refine wpAny_bind (wpAny_storeSet_of ho hd ?_ (fits_of_scanBound hb1))
  have ho1 := store_at (es' := es1) (t' := t2) ho hd
  have sb1 := Heap.SameBut.update s.heap a (Obj.putSet es1 t2)
  split
  · have pm := relayAll_perm t2 es1 (SetTable.grown es1.size)
    have hf3 := relayAll_fits t2 es1 (SetTable.grown es1.size)
    have hr3 := relayAll_ris t2 es1 (SetTable.grown es1.size)
    have hl3 := relayAll_led t2 es1 (SetTable.grown es1.size)
    generalize relayAll t2 es1 (SetTable.grown es1.size) = Z at pm hf3 hr3 hl3 ⊢
    obtain ⟨es2, t3, gave⟩ := Z
    dsimp only at pm hf3 hr3 hl3 ⊢
    have hsz : es2.size = es1.size := by rw [← Array.length_toList, pm.length_eq, Array.length_toList]
    have hb2 : es2.size < scanBound := by rw [hsz]; exact hb1
    refine wpAny_bind (hg _ _ _ ?_)
    refine wpAny_bind (wpAny_storeSet_of ho1 rfl ?_ (fits_of_scanBound hb2))
    have ho2 := store_at (es' := es2) (t' := t3) ho1 rfl
    refine wpAny_pure (hR _ (sb1.trans (Heap.SameBut.update _ a _)) ?_)
    exact ⟨_, es2, _, t3, ho2, hex, rfl, gp _ _ pm.symm g1, hb2, hf3, hr3, hl.imp id fun z => by rw [hl3]; exact z⟩
  · exact wpAny_pure (hR _ sb1 ⟨_, es1, _, t2, ho1, hex, rfl, g1, hb1, hf2, hr, hl⟩)
def strS (e : Int × Value) : Str := match e.2 with | .str x _ => x | _ => Str.empty
def GoodS (w : World) (e : Int × Value) : Prop := ∃ x t, e.2 = Value.str x t ∧ e.1 = hashStr w x
/-- the members are those of xs -/
def StrsG (w : World) (xs : List Str) (l : Ents) : Prop := (∀ e ∈ l, GoodS w e) ∧ (l.map strS).Nodup ∧ ∀ k, k ∈ l.map strS ↔ k ∈ xs
theorem StrsG.perm {xs : List Str} (l l' : Ents) (p : l.Perm l') (g : StrsG w xs l) : StrsG w xs l' :=
  ⟨fun e he => g.1 e (p.mem_iff.mpr he), (p.map strS).nodup_iff.mp g.2.1, fun k => (p.map strS).mem_iff.symm.trans (g.2.2 k)⟩
theorem StrsG.congr {xs ys : List Str} {l : Ents} (g : StrsG w xs l) (h : ∀ k, k ∈ ys ↔ k ∈ xs) : StrsG w ys l := ⟨g.1, g.2.1, fun k => (g.2.2 k).trans (h k).symm⟩
theorem StrsG.nil : StrsG w [] [] := ⟨fun e he => (nomatch he), by simp, fun k => by simp⟩
theorem StrsG.elems {xs : List Str} {l : Ents} (g : StrsG w xs l) : ElemsOf (PySem.strKind P w) l := fun e he => by
  obtain ⟨k, tk, h1, h2⟩ := g.1 e he
  refine ⟨⟨k, ?_, h2⟩, by rw [h1]; rfl⟩
  rw [h1]
  exact beq_self_eq_true k
theorem goodS_is {e : Int × Value} (g : GoodS w e) (k : Str) : (PySem.strKind P w).is k e.2 = true ↔ strS e = k := by
  obtain ⟨k0, tk, h1, _⟩ := g
  unfold strS
  rw [h1]
  show ((k0 == k) = true) ↔ k0 = k
  exact beq_iff_eq
theorem StrsG.mem {xs : List Str} {l : Ents} (g : StrsG w xs l) (k : Str) : k ∈ l.map strS ↔ ∃ e ∈ l, (PySem.strKind P w).is k e.2 = true := by
  rw [List.mem_map]
  constructor
  · rintro ⟨e, he, q⟩
    exact ⟨e, he, (goodS_is (g.1 e he) k).2 q⟩
  · rintro ⟨e, he, q⟩
    exact ⟨e, he, (goodS_is (g.1 e he) k).1 q⟩
theorem setS_add {k : Str} {tk : Tok} {xs : List Str} {Q : Bool → Shared → Prop} (R : SetG w s.heap a (StrsG w xs)) (room : ∀ l : Ents, StrsG w xs l → l.length + 1 < scanBound)
    (hQ : ∀ b h', Heap.SameBut a s.heap h' → SetG w h' a (StrsG w (xs ++ [k])) → Q b { s with heap := h' }) :
    wpAny (model P w) A (setAddHashed a (.str k tk) ((PySem.strKind P w).hash k)) Q E s := by
  obtain ⟨o, es, ep, t, ho, hex, hd, g, hb, hf, hr, hl⟩ := R
  have hkey : (PySem.strKind P w).is k (.str k tk) = true := beq_self_eq_true k
  have hsc : (Value.str k tk).scannable = true := rfl
  have hel : ElemsOf (PySem.strKind P w) es.toList := g.elems
  have hrm := room _ g
  unfold setAddHashed setAddHashedIn
  refine wpAny_holding (wpAny_bind (wpAny_setState_of ho hd hf ?_))
  dsimp only
  rw [byScan_of hsc hb hel]
  simp only [↓reduceIte]
  unfold setAddByScan
  refine wpAny_bind ?_
  refine wpAny_bind (wpAny_rule ?_)
  refine wpAny_bind (wpAny_setScan_of hkey ho hd hf hel ?_)
  cases hfi : List.findIdx? (fun e => (PySem.strKind P w).is k e.2) es.toList with
  | some j =>
    dsimp only
    obtain ⟨hj, pj, _⟩ := List.findIdx?_eq_some_iff_getElem.mp hfi
    have hin : k ∈ xs := (g.2.2 k).1 ((g.mem (P := P) k).2 ⟨es.toList[j], List.getElem_mem hj, pj⟩)
    refine wpAny_pure (wpAny_pure ?_)
    refine hQ _ s.heap (Heap.SameBut.refl a s.heap) ⟨o, es, ep, t, ho, hex, hd, g.congr fun i => ?_, hb, hf, hr, hl⟩
    rw [List.mem_append, List.mem_singleton]
    exact ⟨fun z => z.elim id fun e => e ▸ hin, .inl⟩
  | none =>
    dsimp only
    have hnk : k ∉ es.toList.map strS := fun z => by
      obtain ⟨e, he, q⟩ := (g.mem (P := P) k).1 z
      have c := List.findIdx?_eq_none_iff.mp hfi e he
      rw [q] at c
      cases c
    have hgw : ∀ (b : Bool) {s₁ : Shared} {Q' : Unit → Shared → Prop}, Q' () s₁ → wpAny (model P w) A (match b with | true => rule "set.scan.the-table-gave-way" | false => pure ()) Q' E s₁ :=
      fun b s₁ Q' q => by cases b <;> first | exact wpAny_pure q | exact wpAny_rule q
    have pm := layNew_perm t es ((PySem.strKind P w).hash k) (.str k tk)
    have hf1 := layNew_fits t es ((PySem.strKind P w).hash k) (.str k tk)
    have hr1 := layNew_ris t es ((PySem.strKind P w).hash k) (.str k tk) hr
    have hl1 := layNew_led t es ((PySem.strKind P w).hash k) (.str k tk)
    generalize layNew t es ((PySem.strKind P w).hash k) (.str k tk) = Z at pm hf1 hr1 hl1 ⊢
    obtain ⟨es1, t1, wasDummy, gave⟩ := Z
    dsimp only at pm hf1 hr1 hl1 ⊢
    rw [Array.toList_push] at pm
    have pc : es1.toList.Perm (((PySem.strKind P w).hash k, Value.str k tk) :: es.toList) := pm.trans (List.perm_append_singleton _ _)
    have pk : (es1.toList.map strS).Perm (k :: es.toList.map strS) := pc.map strS
    have g1 : StrsG w (xs ++ [k]) es1.toList := by
      refine ⟨fun e he => ?_, pk.nodup_iff.mpr (List.nodup_cons.mpr ⟨hnk, g.2.1⟩), fun i => ?_⟩
      · rcases List.mem_cons.mp (pc.mem_iff.mp he) with z | z
        · rw [z]; exact ⟨k, tk, rfl, rfl⟩
        · exact g.1 e z
      · rw [pk.mem_iff, List.mem_cons, g.2.2 i, List.mem_append, List.mem_singleton]
        exact Or.comm
    have hsz : es1.size = es.toList.length + 1 := by rw [← Array.length_toList, pc.length_eq, List.length_cons]
    have hb1 : es1.size < scanBound := by rw [hsz]; exact hrm
    have hled : w.params.followText "set-order" = true ∨ t1.led = true := hl.imp id fun z => by rw [hl1]; exact z
    refine wpAny_bind (hgw _ ?_)
    split
    · refine wpAny_bind ?_
      rw [hashByValue_scannable 8 hsc]
      refine wpAny_pure ?_
      refine setG_tail StrsG.perm ?_ ho hex hd g1 hb1 ?_ ?_ ?_ ?_
      · intro b s₁ Q' q; cases b <;> first | exact wpAny_pure q | exact wpAny_rule q
      · first | (split <;> first | exact hf1 | exact SetTable.fits_plain_off hf1) | exact hf1
      · first | (split <;> exact hr1) | exact hr1
      · first | (split <;> exact hled) | exact hled
      · intro h' sb r; dsimp only; exact wpAny_pure (hQ _ h' sb r)
    · refine wpAny_bind (wpAny_pure ?_)
      simp only [↓reduceIte]
      refine setG_tail StrsG.perm ?_ ho hex hd g1 hb1 hf1 hr1 hled ?_
      · intro b s₁ Q' q; cases b <;> first | exact wpAny_pure q | exact wpAny_rule q
      · intro h' sb r; dsimp only; exact wpAny_pure (hQ _ h' sb r)
/-- the members are no more than what was put in -/
theorem nodup_le : ∀ (l D : List Str), l.Nodup → (∀ x ∈ l, x ∈ D) → l.length ≤ D.length
  | [], _, _, _ => Nat.zero_le _
  | x :: l, D, nd, h => by
    obtain ⟨n1, n2⟩ := List.nodup_cons.mp nd
    have hx := h x List.mem_cons_self
    have := nodup_le l (D.erase x) n2 fun y hy => by
      have hne : y ≠ x := fun z => n1 (z ▸ hy)
      exact (List.mem_erase_of_ne hne).mpr (h y (List.mem_cons_of_mem _ hy))
    rw [List.length_erase_of_mem hx] at this
    have hp : 0 < D.length := List.length_pos_of_mem hx
    rw [List.length_cons]
    omega
theorem StrsG.len {xs : List Str} {l : Ents} (g : StrsG w xs l) : l.length ≤ xs.length := by
  have := nodup_le (l.map strS) xs g.2.1 fun x hx => (g.2.2 x).1 hx
  rwa [List.length_map] at this
/-- set.update, text by text -/
theorem setS_update {I : Addr} {fp wr : List Addr} {Gn : Array GenState → Array GenState → Prop} {n : Nat} {Pv : Nat → Value → Prop} {St : Nat → Shared → Prop} {R : Result → Shared → Prop}
    (W : WalksS P w A.in1 I fp wr Gn n Pv St) (S : Addr) (hSf : S ∉ fp) (xs : List Str) (hn : n = xs.length) (hb : xs.length + 1 < scanBound) (hval : ∀ i v, Pv i v → ∃ k t, xs[i]? = some k ∧ v = .str k t) :
    ∀ (k i : Nat) (s : Shared), n - i = k → i ≤ n → St i s → SetG w s.heap S (StrsG w (xs.take i)) →
      (∀ s', Moved (S :: wr) Gn s s' → SetG w s'.heap S (StrsG w xs) → R (.ok (.ret .none)) s') →
      codeAny (model P w) A (.builtin "set.update.loop" ⟨[.ref S, .ref I], []⟩) R s := by
  have hSw : S ∉ wr := fun h => hSf (W.sub _ h)
  have hsub : ∀ b ∈ wr, b ∈ S :: wr := fun b hb => List.mem_cons_of_mem _ hb
  intro k
  induction k with
  | zero =>
    intro i s hk' hi hst hS hR
    have hin : i = n := by omega
    subst hin
    refine codeAny_builtin F.entry_set_update_loop ?_
    rw [Around.under_plainId F.plain_set_update_loop _]
    show wpAny _ A.in1 (pyNext (.ref I) >>= _) _ _ s
    refine wpAny_bind (W.done s _ _ hst fun s' hm => ?_)
    show wpAny _ A.in1 (ret Value.none) _ _ s'
    have e : xs.take i = xs := List.take_of_length_le (by omega)
    rw [e] at hS
    exact wpAny_pure (hR s' (hm.mono hsub) (hS.at fun o e => hm.heap S o hSw e))
  | succ k ih =>
    intro i s hk' hi hst hS hR
    have hlt : i < n := by omega
    refine codeAny_builtin F.entry_set_update_loop ?_
    rw [Around.under_plainId F.plain_set_update_loop _]
    show wpAny _ A.in1 (pyNext (.ref I) >>= _) _ _ s
    refine wpAny_bind (W.item i s _ _ hlt hst fun v s' hP hst' hm => ?_)
    obtain ⟨z, t, hz, rfl⟩ := hval i v hP
    have hS' : SetG w s'.heap S (StrsG w (xs.take i)) := hS.at fun o e => hm.heap S o hSw e
    show wpAny _ A.in1 (holding [Value.str z t] (setAdd S (.str z t)) >>= _) _ _ s'
    refine wpAny_bind (wpAny_holding ?_)
    unfold setAdd
    refine wpAny_holding ?_
    refine wpAny_bind ((PySem.strKind P w).pyHash (k := z) (beq_self_eq_true z) ?_)
    refine setS_add (s := { s' with toks := s'.toks + 1 }) hS' (fun l g => ?_) fun b h' hsb hS2 => ?_
    · have h1 := g.len
      have h2 := List.length_take_le i xs
      omega
    have hS3 : SetG w h' S (StrsG w (xs.take (i + 1))) := by
      rw [List.take_add_one, hz]
      exact hS2
    refine wpAny_pure ⟨plainId_quiet F.plain_set_update_loop _, ih (i + 1) _ (by omega) hlt (W.frame _ s' _ _ hst' (Nat.le_succ _) fun b hb o e => ?_) hS3 fun s'' hm'' hS'' => ?_⟩
    · rw [hsb.2 b (fun h : b = S => hSf (by rw [← h]; exact hb))]
      exact e
    · refine hR s'' (Moved.trans W.gtrans ((hm.mono hsub).then_heap (Nat.le_succ _) fun b o hb e => ?_) hm'') hS''
      rw [hsb.2 b (fun h : b = S => hb (by rw [h]; exact List.mem_cons_self))]
      exact e
end
end Lg
/-! Lg4 -/
set_option maxHeartbeats 4000000
namespace Lg
open PySem PySem.Spec PyProof.Rows L2
section
variable {P : Program} {w : World} {A : Around} {E : Value → Shared → Prop} {s : Shared}
def InitR (s : Shared) (D : Heap → Prop) (E : Value → Shared → Prop) : Result → Shared → Prop :=
  wants (fun r s₂ => r = .none ∧ ∃ h' tk, s₂ = { s with heap := h', toks := tk } ∧ D h' ∧ (∀ b o, s.heap.get? b = some o → h'.get? b = some o)) E
/-- set(v): what set.__init__ leaves -/
theorem set_call1 {v : Value} {D : Heap → Prop} {Q : Value → Shared → Prop}
    (hinit : wpAny (model P w) A.in1.in1 (Builtin.«set.__init__» ⟨[.ref s.heap.objs.size, v], []⟩)
      (fun fin s' => match fin with
        | .done f => InitR s D E (.ok f) s'
        | .again c' => c'.quiet = true ∧ codeAny (model P w) A.in1 c' (InitR s D E) s')
      (fun e s' => InitR s D E (.error e) s') { s with heap := s.heap.push (freshS w) })
    (h : ∀ (h' : Heap) (tk : Nat), D h' → (∀ b o, s.heap.get? b = some o → h'.get? b = some o) → Q (.ref s.heap.objs.size) { s with heap := h', toks := tk }) :
    wpAny (model P w) A (call (.type "set") [v]) Q E s := by
  obtain ⟨c, tl, hmro⟩ := F.called_set.mro
  have hmade := F.called_set.made
  have hsub := F.called_set.sub
  refine wpAny_call (codeAny_of_tree ?_)
  show wpAny _ _ (callAny (.type "set") _) _ _ _
  refine wpAny_pure ⟨Code.quiet_builtin _ (by decide +kernel), codeAny_builtin F.entry_type_call ?_⟩
  rw [Around.under_plain (weight_type_call_type "set" [v] []) rfl]
  have h1 := F.called_set.notType
  have h2 := F.called_set.canCreate
  have hct := F.typeCall_set_1 v
  repeat (any_goals (first | assumption | wp_step))
  refine codeAny_mono (code_set_led1 v (E := E) (Q₁ := fun obj s₁ => obj = .ref s.heap.objs.size ∧ s₁ = { s with heap := s.heap.push (freshS w) }) ⟨rfl, rfl⟩) fun r s₁ hr => ?_
  cases r with
  | error e => exact hr
  | ok fl =>
    cases fl with
    | ret obj =>
      obtain ⟨rfl, rfl⟩ := hr
      have hS : (s.heap.push (freshS w)).get? s.heap.objs.size = some (freshS w) := Heap.get?_push_size _ rfl
      have hT : Shared.TypeIs { s with heap := s.heap.push (freshS w) } (.ref s.heap.objs.size) "set" := ⟨_, hS, rfl⟩
      have hli := F.called_set.init.lookup
      have hbi := F.called_set.init.bind (.ref s.heap.objs.size)
      repeat (any_goals (first | assumption | wp_step))
      refine codeAny_mono (codeAny_call_builtin (R := InitR s D E) F.called_set.init.plain F.entry_set_init (check_set_init_1 hT hinit)) fun r₂ s₂ hr₂ => ?_
      cases r₂ with
      | error e => exact hr₂
      | ok fl₂ =>
        cases fl₂ with
        | ret r =>
          obtain ⟨rfl, h', tk, rfl, hS', hk'⟩ := hr₂
          repeat (any_goals (first | assumption | wp_step))
          exact h _ _ hS' hk'
        | _ => exact hr₂.elim
    | _ => exact hr.elim
/-- set(v), v a list: by what the update's loop leaves -/
theorem set_of_list {l : Addr} {items : Array Value} {D : Heap → Prop} {Q : Value → Shared → Prop} (hh : A.handled = none) (hl : s.heap.IsList l items)
    (hup : ∀ (A' : Around) (I : Addr) (s1 : Shared) (R : Result → Shared → Prop), A'.in1.units = A.units + 3 → s1.heap = (s.heap.push (freshS w)).push { cls := .type "list_iterator", data := .fields #[.ref l, .int 0 0] } → I = s.heap.objs.size + 1 →
      WalksS P w A'.in1 I [I, l] [I] (fun a b => b = a) items.size (fun i v => items[i]? = some v) (fun i s => s.heap.IsListIter I l i ∧ s.heap.IsList l items) → s.heap.objs.size ∉ [I, l] → s1.heap.IsListIter I l 0 ∧ s1.heap.IsList l items → s1.heap.get? s.heap.objs.size = some (freshS w) →
      (∀ s', Moved (s.heap.objs.size :: [I]) (fun a b => b = a) s1 s' → D s'.heap → R (.ok (.ret .none)) s') → codeAny (model P w) A' (.builtin "set.update.loop" ⟨[.ref s.heap.objs.size, .ref I], []⟩) R s1)
    (h : ∀ (h' : Heap) (tk : Nat), D h' → (∀ b o, s.heap.get? b = some o → h'.get? b = some o) → Q (.ref s.heap.objs.size) { s with heap := h', toks := tk }) :
    wpAny (model P w) A (call (.type "set") [.ref l]) Q E s := by
  refine set_call1 (D := D) ?_ h
  have hS : (s.heap.push (freshS w)).get? s.heap.objs.size = some (freshS w) := Heap.get?_push_size _ rfl
  have hT : Shared.TypeIs { s with heap := s.heap.push (freshS w) } (.ref s.heap.objs.size) "set" := ⟨_, hS, rfl⟩
  obtain ⟨ol, hol, hcl, nl, hdl⟩ := hl
  obtain ⟨ocls, odict, odata, oslots⟩ := ol
  simp only at hcl hdl
  subst hcl
  subst hdl
  have hol' : (s.heap.push (freshS w)).get? l = some { cls := .type "list", dict := odict, data := .seq items nl, slots := oslots } := Heap.get?_push_of_some _ hol
  have hsls := F.sub_list_set
  have hslf := F.sub_list_frozenset
  have hne : (Value.type "list" == Value.type "dict") = false := by decide
  have hl1 : (s.heap.push (freshS w)).IsList l items := ⟨_, hol', rfl, nl, rfl⟩
  unfold Builtin.«set.__init__» noKeywords Builtin.Frozenset.updateFrom
  generalize hPI : pyIter = PI
  generalize hIR : InitR s D E = IR
  wp_walk
  subst hPI
  refine wpAny_pyIter_list hl1 ?_
  refine wpAny_bind (wpAny_runValue ?_)
  have hlS : l < s.heap.objs.size := Heap.lt_size hol
  have hh3 : A.in1.in1.in1.handled = none := by simp [hh]
  have hsz1 : (s.heap.push (freshS w)).objs.size = s.heap.objs.size + 1 := Heap.size_push ..
  rw [hsz1]
  have hneI : l ≠ s.heap.objs.size + 1 := Nat.ne_of_lt (Nat.lt_succ_of_lt hlS)
  have hSf : s.heap.objs.size ∉ [s.heap.objs.size + 1, l] := by
    simp only [List.mem_cons, List.mem_singleton, List.not_mem_nil, or_false, not_or]
    exact ⟨Nat.ne_of_lt (Nat.lt_succ_self _), Nat.ne_of_gt hlS⟩
  have hit : ((s.heap.push (freshS w)).push { cls := .type "list_iterator", data := .fields #[.ref l, .int 0 0] }).get? (s.heap.objs.size + 1) = some { cls := .type "list_iterator", data := .fields #[.ref l, .int 0 0] } := by
    have := Heap.get?_push_size (s.heap.push (freshS w)) (o := { cls := .type "list_iterator", data := .fields #[.ref l, .int 0 0] }) rfl
    rwa [hsz1] at this
  refine hup _ (s.heap.objs.size + 1) _ _ rfl rfl rfl ((Walks.list hh3 _ l hneI items).toS) hSf ⟨⟨_, hit, rfl, rfl⟩, hl1.push _⟩ (Heap.get?_push_of_some _ hS) fun s' hm hD => ?_
  obtain ⟨h', g2, d', tk', os'⟩ := s'
  have eg : g2 = s.gens := hm.gens
  have ed : d' = s.drawn := hm.drawn
  have eo : os' = s.os := hm.os
  subst eg
  subst ed
  subst eo
  show wpAny _ _ _ _ _ _
  refine wpAny_pure ?_
  show wpAny _ _ (ret Value.none) _ _ _
  rw [← hIR]
  refine wpAny_pure ⟨rfl, h', tk', rfl, hD, fun b o e => ?_⟩
  have hb0 : b < s.heap.objs.size := Heap.lt_size e
  exact hm.heap b o (by simp only [List.mem_cons, List.mem_singleton, List.not_mem_nil, or_false, not_or]; exact ⟨Nat.ne_of_lt hb0, Nat.ne_of_lt (Nat.lt_succ_of_lt hb0)⟩) (Heap.get?_push_of_some _ (Heap.get?_push_of_some _ e))
theorem setS_list {l : Addr} {items : Array Value} (xs : List Str) {Q : Value → Shared → Prop} (hh : A.handled = none) (hl : s.heap.IsList l items) (hit : StrsAre items.toList xs) (hb : xs.length + 1 < scanBound)
    (h : ∀ (h' : Heap) (tk : Nat), SetG w h' s.heap.objs.size (StrsG w xs) → (∀ b o, s.heap.get? b = some o → h'.get? b = some o) → Q (.ref s.heap.objs.size) { s with heap := h', toks := tk }) :
    wpAny (model P w) A (call (.type "set") [.ref l]) Q E s := by
  have hisz : items.size = xs.length := by
    have q := StrsAre.length hit
    rw [Array.length_toList] at q
    exact q
  refine set_of_list (D := fun h' => SetG w h' s.heap.objs.size (StrsG w xs)) hh hl (fun A' I s1 R _ e1 eI W hSf st0 hf k => ?_) h
  have hval : ∀ (i : Nat) (v : Value), items[i]? = some v → ∃ k t, xs[i]? = some k ∧ v = .str k t := fun i v hv => by
    have hi : i < xs.length := by
      rw [← hisz]
      exact (Array.getElem?_eq_some_iff.mp hv).1
    obtain ⟨t, e⟩ := SS.strs_at hit i v (by rw [Array.getElem?_toList]; exact hv)
    refine ⟨xs[i], t, List.getElem?_eq_getElem hi, ?_⟩
    rw [e, List.getD_eq_getElem?_getD, List.getElem?_eq_getElem hi]
    rfl
  exact setS_update W s.heap.objs.size hSf xs hisz hb hval (items.size - 0) 0 s1 (by omega) (Nat.zero_le _) st0 (SetG.fresh hf StrsG.nil) k
/-- set(v), v a tuple: by what the update's loop leaves -/
theorem set_of_tuple {l : Addr} {items : Array Value} {D : Heap → Prop} {Q : Value → Shared → Prop} (hh : A.handled = none) (hl : s.heap.IsTuple l items)
    (hup : ∀ (A' : Around) (I : Addr) (s1 : Shared) (R : Result → Shared → Prop), A'.in1.units = A.units + 3 → s1.heap = (s.heap.push (freshS w)).push { cls := .type "tuple_iterator", data := .fields #[.ref l, .int 0 0] } → I = s.heap.objs.size + 1 →
      WalksS P w A'.in1 I [I, l] [I] (fun a b => b = a) items.size (fun i v => items[i]? = some v) (fun i s => s.heap.IsTupleIter I l i ∧ s.heap.IsTuple l items) → s.heap.objs.size ∉ [I, l] → s1.heap.IsTupleIter I l 0 ∧ s1.heap.IsTuple l items → s1.heap.get? s.heap.objs.size = some (freshS w) →
      (∀ s', Moved (s.heap.objs.size :: [I]) (fun a b => b = a) s1 s' → D s'.heap → R (.ok (.ret .none)) s') → codeAny (model P w) A' (.builtin "set.update.loop" ⟨[.ref s.heap.objs.size, .ref I], []⟩) R s1)
    (h : ∀ (h' : Heap) (tk : Nat), D h' → (∀ b o, s.heap.get? b = some o → h'.get? b = some o) → Q (.ref s.heap.objs.size) { s with heap := h', toks := tk }) :
    wpAny (model P w) A (call (.type "set") [.ref l]) Q E s := by
  refine set_call1 (D := D) ?_ h
  have hS : (s.heap.push (freshS w)).get? s.heap.objs.size = some (freshS w) := Heap.get?_push_size _ rfl
  have hT : Shared.TypeIs { s with heap := s.heap.push (freshS w) } (.ref s.heap.objs.size) "set" := ⟨_, hS, rfl⟩
  obtain ⟨ol, hol, hcl, nl, hdl⟩ := hl
  obtain ⟨ocls, odict, odata, oslots⟩ := ol
  simp only at hcl hdl
  subst hcl
  subst hdl
  have hol' : (s.heap.push (freshS w)).get? l = some { cls := .type "tuple", dict := odict, data := .seq items nl, slots := oslots } := Heap.get?_push_of_some _ hol
  have hsls := F.sub_tuple_set
  have hslf := F.sub_tuple_frozenset
  have hne : (Value.type "tuple" == Value.type "dict") = false := by decide
  have hl1 : (s.heap.push (freshS w)).IsTuple l items := ⟨_, hol', rfl, nl, rfl⟩
  unfold Builtin.«set.__init__» noKeywords Builtin.Frozenset.updateFrom
  generalize hPI : pyIter = PI
  generalize hIR : InitR s D E = IR
  wp_walk
  subst hPI
  refine wpAny_pyIter_tuple hl1 ?_
  refine wpAny_bind (wpAny_runValue ?_)
  have hlS : l < s.heap.objs.size := Heap.lt_size hol
  have hh3 : A.in1.in1.in1.handled = none := by simp [hh]
  have hsz1 : (s.heap.push (freshS w)).objs.size = s.heap.objs.size + 1 := Heap.size_push ..
  rw [hsz1]
  have hneI : l ≠ s.heap.objs.size + 1 := Nat.ne_of_lt (Nat.lt_succ_of_lt hlS)
  have hSf : s.heap.objs.size ∉ [s.heap.objs.size + 1, l] := by
    simp only [List.mem_cons, List.mem_singleton, List.not_mem_nil, or_false, not_or]
    exact ⟨Nat.ne_of_lt (Nat.lt_succ_self _), Nat.ne_of_gt hlS⟩
  have hit : ((s.heap.push (freshS w)).push { cls := .type "tuple_iterator", data := .fields #[.ref l, .int 0 0] }).get? (s.heap.objs.size + 1) = some { cls := .type "tuple_iterator", data := .fields #[.ref l, .int 0 0] } := by
    have := Heap.get?_push_size (s.heap.push (freshS w)) (o := { cls := .type "tuple_iterator", data := .fields #[.ref l, .int 0 0] }) rfl
    rwa [hsz1] at this
  refine hup _ (s.heap.objs.size + 1) _ _ rfl rfl rfl ((Walks.tuple hh3 _ l hneI items).toS) hSf ⟨⟨_, hit, rfl, rfl⟩, hl1.push _⟩ (Heap.get?_push_of_some _ hS) fun s' hm hD => ?_
  obtain ⟨h', g2, d', tk', os'⟩ := s'
  have eg : g2 = s.gens := hm.gens
  have ed : d' = s.drawn := hm.drawn
  have eo : os' = s.os := hm.os
  subst eg
  subst ed
  subst eo
  show wpAny _ _ _ _ _ _
  refine wpAny_pure ?_
  show wpAny _ _ (ret Value.none) _ _ _
  rw [← hIR]
  refine wpAny_pure ⟨rfl, h', tk', rfl, hD, fun b o e => ?_⟩
  have hb0 : b < s.heap.objs.size := Heap.lt_size e
  exact hm.heap b o (by simp only [List.mem_cons, List.mem_singleton, List.not_mem_nil, or_false, not_or]; exact ⟨Nat.ne_of_lt hb0, Nat.ne_of_lt (Nat.lt_succ_of_lt hb0)⟩) (Heap.get?_push_of_some _ (Heap.get?_push_of_some _ e))
theorem setS_tuple {l : Addr} {items : Array Value} (xs : List Str) {Q : Value → Shared → Prop} (hh : A.handled = none) (hl : s.heap.IsTuple l items) (hit : StrsAre items.toList xs) (hb : xs.length + 1 < scanBound)
    (h : ∀ (h' : Heap) (tk : Nat), SetG w h' s.heap.objs.size (StrsG w xs) → (∀ b o, s.heap.get? b = some o → h'.get? b = some o) → Q (.ref s.heap.objs.size) { s with heap := h', toks := tk }) :
    wpAny (model P w) A (call (.type "set") [.ref l]) Q E s := by
  have hisz : items.size = xs.length := by
    have q := StrsAre.length hit
    rw [Array.length_toList] at q
    exact q
  refine set_of_tuple (D := fun h' => SetG w h' s.heap.objs.size (StrsG w xs)) hh hl (fun A' I s1 R _ e1 eI W hSf st0 hf k => ?_) h
  have hval : ∀ (i : Nat) (v : Value), items[i]? = some v → ∃ k t, xs[i]? = some k ∧ v = .str k t := fun i v hv => by
    have hi : i < xs.length := by
      rw [← hisz]
      exact (Array.getElem?_eq_some_iff.mp hv).1
    obtain ⟨t, e⟩ := SS.strs_at hit i v (by rw [Array.getElem?_toList]; exact hv)
    refine ⟨xs[i], t, List.getElem?_eq_getElem hi, ?_⟩
    rw [e, List.getD_eq_getElem?_getD, List.getElem?_eq_getElem hi]
    rfl
  exact setS_update W s.heap.objs.size hSf xs hisz hb hval (items.size - 0) 0 s1 (by omega) (Nat.zero_le _) st0 (SetG.fresh hf StrsG.nil) k
end
end Lg
/-! Lg5 -/
set_option maxHeartbeats 4000000
namespace Lg
open PySem PySem.Spec PyProof.Rows L2
theorem rising_sorted : ∀ (p : Str) (l : List Str), risingS p l = true → (p :: l).Nodup → SortedS (p :: l)
  | p, [], _, _ => by simp
  | p, x :: r, h, nd => by
    have h' : (!ltCps x.cps.toList p.cps.toList && risingS x r) = true := h
    obtain ⟨h1, h2⟩ := Bool.and_eq_true_iff.mp h'
    obtain ⟨n1, n2⟩ := List.nodup_cons.mp nd
    have ih := rising_sorted x r h2 n2
    have h3 : ltS x p = false := by
      have : ltCps x.cps.toList p.cps.toList = false := by simpa using h1
      rw [ltCps_eq] at this
      exact this
    have h4 : ltS p x = true := by
      rcases ltS_tri p x with q | q | q
      · exact q
      · exact absurd (q ▸ List.mem_cons_self) n1
      · rw [h3] at q; cases q
    refine List.pairwise_cons.mpr ⟨fun z hz => ?_, ih⟩
    rcases List.mem_cons.mp hz with rfl | hz
    · exact h4
    · exact ltS_trans h4 ((List.pairwise_cons.mp ih).1 z hz)
theorem sortedS_lt : ∀ {l : List Str}, sortedS l = true → l.Nodup → SortedS l
  | [], _, _ => List.Pairwise.nil
  | p :: l, h, nd => rising_sorted p l h nd
theorem nodup_sorted : ∀ {l : List Str}, SortedS l → l.Nodup := fun h => List.Pairwise.imp (fun {a b} e z => by rw [z, ltS_irrefl] at e; cases e) h
theorem nodup_sortS (l : List Str) : (sortS l).Nodup := nodup_sorted (sorted_sortS l)
theorem StrsG.size {w : World} {xs : List Str} {l : Ents} (g : StrsG w xs l) : l.length = (sortS xs).length := by
  have h1 := nodup_le (l.map strS) (sortS xs) g.2.1 fun x hx => mem_sortS.mpr ((g.2.2 x).1 hx)
  have h2 := nodup_le (sortS xs) (l.map strS) (nodup_sortS xs) fun x hx => (g.2.2 x).2 (mem_sortS.mp hx)
  rw [List.length_map] at h1 h2
  omega
theorem strs_vals : ∀ (l : List Value), (∀ v ∈ l, ∃ x t, v = Value.str x t) → StrsAre l (l.map fun v => strS (0, v))
  | [], _ => .nil
  | v :: l, h => by
    obtain ⟨x, t, rfl⟩ := h v List.mem_cons_self
    exact .cons x t (strs_vals l fun u hu => h u (List.mem_cons_of_mem _ hu))
def SetSO (w : World) (a : Addr) (xs : List Str) : HO := .ext fun h => SetG w h a (StrsG w xs)
section
variable {P : Program} {w : World} {A : Around} {E : Value → Shared → Prop} {s : Shared} {a : Addr}
theorem sortedG_strs {xs : List Str} {Q : Value → Shared → Prop} (R : SetG w s.heap a (StrsG w xs)) (hh : A.handled = none)
    (hQ : ∀ s' p (out : Array Value) (c : Nat), (∀ b o, s.heap.get? b = some o → s'.heap.get? b = some o) → s'.gens = s.gens → s'.os = s.os → s.heap.objs.size ≤ p →
      s'.heap.get? p = some (seqObj "list" out c) → StrsAre out.toList (sortS xs) → Q (.ref p) s') :
    wpAny (model P w) A (call (.builtin "sorted") [.ref a]) Q E s := by
  obtain ⟨o, es, ep, t, ho, hex, hd, g, hb, hf, hr, hl⟩ := R
  refine Calls.call_function_entry kind_sorted plain_sorted entry_sorted (args_sorted1 _) ?_
  unfold Builtin.«sorted»
  refine wpAny_bind (m := checkCount "sorted" 1 1 _) (wpAny_pure ?_)
  refine wpAny_bind (collect_set (A := A.in1) hh ⟨o, ho, hex.1, hd⟩ hf hb hr hl fun s1 vs k1 hz g1 o1 pm => ?_)
  have hvl : vs.length = es.size := by rw [pm.length_eq, List.length_map, Array.length_toList]
  have hI := strs_vals vs fun v hv => by
    obtain ⟨e, he, q⟩ := List.mem_map.mp (pm.mem_iff.mp hv)
    obtain ⟨k, tk, h1, _⟩ := g.1 e he
    exact ⟨k, tk, by rw [← q]; exact h1⟩
  have hz2 : vs.length ≤ sizeLine := by
    rw [hvl, sizeLine_eq]
    have h1 : scanBound = 4096 := rfl
    omega
  have pk : (vs.map fun v => strS (0, v)).Perm (es.toList.map strS) := by
    have q := pm.map fun v => strS (0, v)
    rw [List.map_map] at q
    exact q
  refine wpAny_bind (wpAny_newList ?_ hz2)
  have hoL : (s1.heap.push (seqObj "list" vs.toArray 0)).get? s1.heap.objs.size = some (seqObj "list" vs.toArray 0) := Heap.get?_push_size _ rfl
  refine wpAny_bind (wpAny_holding (wpAny_call_entry slot_list_sort ⟨_, hoL, rfl⟩ entry_list_sort
    (list_sort_treeKAny strKind_oneLt hoL hI.keysOf (fun v₁ v₂ rest e => keyKind_strs (by rw [← e]; exact hI)) hz2 fun st' hp hs => ⟨_, rfl, ?_⟩) (args_list_sort _)))
  obtain ⟨ss', a1, a2, a3⟩ := sorted_out_str hI hp hs
  obtain ⟨c, hc⟩ := sortedHeap_at (vs := vs) (out := (arrOf st').map (·.2)) hoL
  have pn := a2.trans pk
  have nd : ss'.Nodup := pn.nodup_iff.mpr g.2.1
  have e : ss' = sortS xs := sortS_eq (sortedS_lt a3 nd) fun z => by rw [pn.mem_iff, g.2.2]
  rw [e] at a1
  refine wpAny_pure ⟨_, rfl, hQ _ s1.heap.objs.size _ c (fun b u e => ?_) g1 o1 hz hc a1⟩
  have q := k1 b u e
  have hlt := Heap.lt_size q
  show (sortedHeap (s1.heap.push (seqObj "list" vs.toArray 0)) s1.heap.objs.size vs _).get? b = some u
  rw [sortedHeap_old (Nat.ne_of_lt hlt) (by rw [size_push']; exact Nat.lt_succ_of_lt hlt)]
  exact Heap.get?_push_of_some _ q
end
section
variable {X : Cx}
theorem setSO_new {w : World} {P : Program} {H : Hp} {h : Heap} {a : Addr} {xs : List Str} (R : SetG w h a (StrsG w xs)) : ObjOk P w H h a (SetSO w a xs) := by
  have ⟨o, _, _, _, ho, _⟩ := R
  exact ⟨R, ⟨o, ho⟩, fun h1 h2 p k => SetG.at p k⟩
theorem setSO_get {pins : List (Addr × Obj)} {σ : L2.St} {H : Hp} {s : Shared} {a : Addr} {xs : List Str} (I : L2.Inv X pins σ H s) (ha : H a = some (SetSO X.w a xs)) : SetG X.w s.heap a (StrsG X.w xs) := (I.hok a _ ha).1
/-- set(xs), a list or a tuple of texts -/
def rSetS (K : PySem.W.Frag) (w : World) : List V → Hp → VK → Prop := fun vs H Q => ∃ (l : Addr) (xs : List Str), vs = [.ref l] ∧ (SqL K H l (xs.map V.str) ∨ SqT K H l (xs.map V.str)) ∧ xs.length ≤ 4000 ∧ ∀ p, H p = none → Q (.ref p) (upd H p (SetSO w p xs))
theorem cr_setS (hc : X.calm = true) : CallR X (.type "set") (rSetS X.K X.w) := by
  intro pins s σ H vs us Q I r h
  obtain ⟨l, xs, rfl, hq, hn, q⟩ := h
  rw [Vals.ref1 r]
  have hb : xs.length + 1 < scanBound := by
    have h1 : scanBound = 4096 := rfl
    omega
  have fin : ∀ (h' : Heap) (tk : Nat), SetG X.w h' s.heap.objs.size (StrsG X.w xs) → (∀ b o, s.heap.get? b = some o → h'.get? b = some o) → EP X pins σ Q (.ref s.heap.objs.size) { s with heap := h', toks := tk } := fun h' tk g k =>
    ⟨.ref _, upd H s.heap.objs.size (SetSO X.w s.heap.objs.size xs), I.laid (t' := tk) k (Nat.le_refl _) (setSO_new g), rfl, q _ (I.hok.fresh (Nat.le_refl _))⟩
  rcases hq with hq | hq
  · obtain ⟨its, rv, hl, hz⟩ := I.list hq
    exact setS_list xs (I.ok.hd hc) hl.isList (by simpa using rv.strs) hb fin
  · obtain ⟨its, rv, hl, hz⟩ := I.tuple hq
    exact setS_tuple xs (I.ok.hd hc) hl (by simpa using rv.strs) hb fin
/-- sorted(found) -/
def rSortSet (w : World) : List V → Hp → VK → Prop := fun vs H Q => ∃ (a : Addr) (xs : List Str), vs = [V.ref a] ∧ H a = some (SetSO w a xs) ∧ xs.length ≤ 4000 ∧ ∀ p, H p = none → Q (.ref p) (upd H p (.lst ((sortS xs).map V.str)))
theorem sortS_len (xs : List Str) : (sortS xs).length ≤ xs.length := nodup_le _ _ (nodup_sortS xs) fun x h => mem_sortS.mp h
theorem cr_sortSet (hc : X.calm = true) : CallR X (.builtin "sorted") (rSortSet X.w) := by
  intro pins s σ H vs us Q I r h
  obtain ⟨a, xs, rfl, ha, hn, q⟩ := h
  rw [Vals.ref1 r]
  refine sortedG_strs (setSO_get I ha) (I.ok.hd hc) fun s' p out c k g o hp hg hi => ?_
  have hlen : ((sortS xs).map V.str).length ≤ sizeLine := by
    rw [List.length_map, sizeLine_eq]
    have := sortS_len xs
    omega
  have hn : H p = none := I.hok.fresh hp
  have J : L2.Inv X pins σ (upd H p (.lst ((sortS xs).map V.str))) { s with heap := s'.heap, gens := s'.gens, drawn := s'.drawn, toks := s'.toks } :=
    I.call (ch := []) (Un.laid k hp hn) (I.hok.laid k hp ⟨hlen, out.toList, c, vals_of_strs hi, hg⟩) (by rw [g]; exact I.bare) (fun _ z => nomatch z)
  have e : s' = { s with heap := s'.heap, gens := s'.gens, drawn := s'.drawn, toks := s'.toks } := by
    cases s'
    cases s
    cases o
    rfl
  rw [e]
  exact ⟨.ref p, _, J, rfl, q p hn⟩
/-- len(found) -/
def rLenSet (w : World) : List V → Hp → VK → Prop := fun vs H Q => ∃ (a : Addr) (xs : List Str), vs = [V.ref a] ∧ H a = some (SetSO w a xs) ∧ Q (.int (sortS xs).length) H
theorem cr_lenSet : CallR X (.builtin "len") (rLenSet X.w) := by
  intro pins s σ H vs us Q I r h
  obtain ⟨a, xs, rfl, ha, q⟩ := h
  rw [Vals.ref1 r]
  obtain ⟨o, es, ep, t, ho, hex, hd, g, hb, hf, _⟩ := setSO_get I ha
  have hsz : es.size = (sortS xs).length := by rw [← Array.length_toList, g.size]
  have h1 : scanBound = 4096 := rfl
  refine call_len_set ho hex hd hf (by omega) ⟨.int (sortS xs).length, H, I.tok _, ⟨_, by rw [hsz]⟩, q⟩
end
end Lg
/-! Lg6 -/
set_option maxHeartbeats 4000000
namespace Lg
open PySem PySem.Spec PyProof.Rows L2
theorem bin_same {prog : Program} {w : World} {A : Around} {E : Value → Shared → Prop} {s : Shared} {K : PySem.W.Frag} {x y C f : Addr} {ox oy : Obj} {od od' : Option Obj} {op : Operator} {Q : Value → Shared → Prop}
    (X : K.In s.heap) (I : PySem.W.InstAt s.heap x ox C od) (J : PySem.W.InstAt s.heap y oy C od') (hc : PySem.W.selfFirst K C = true) (hs : PySem.W.findIn K (.ref C) (PySem.dunder op.info.2) = some (some (.ref f))) (hf : PySem.W.isFn K (.ref f) = true)
    (h : wpAny (model prog w) A (call (.ref f) [.ref x, .ref y]) (PySem.W.CmpBack Q) E s) : wpAny (model prog w) A (binaryOp op (.ref x) (.ref y)) Q E s := by
  obtain ⟨cd, rest, hcd, hm⟩ := PySem.W.ksp_first hc
  rcases hi : op.info with ⟨sym, nm'⟩
  rw [hi] at hs
  dsimp only at hs
  have one := PySem.W.ksp_try X I hs hf h
  have L3 : PySem.W.Looks (model prog w) s.heap (fillsNumberSlot (.ref C) nm') true := PySem.W.fills_K X hcd hm hs
  have heq : (Value.ref C == Value.ref C) = true := beq_self_eq_true _
  simp only [binaryOp, hi]
  refine wpAny_holding (wpAny_bind ?_)
  unfold binaryOp1
  refine wpAny_bind (I.type.here (wpAny_bind (J.type.here (wpAny_bind (L3.here ?_)))))
  simp only [heq, if_true]
  refine wpAny_bind (wpAny_pure ?_)
  simp only [Bool.and_false, Bool.false_eq_true, if_false, Bool.false_and]
  refine wpAny_bind (wpAny_pure ?_)
  simp only [Bool.false_eq_true, if_false, if_true]
  refine wpAny_bind (wpAny_mono one (fun r s' hr' => ?_) fun _ _ e => e)
  obtain ⟨v, rfl, hq⟩ := hr'
  exact wpAny_pure (wpAny_pure hq)
theorem if_bound_ne {M : Model} {A : Around} {E : Value → Shared → Prop} {s : Shared} {K : PySem.W.Frag} {x C : Addr} {ox : Obj} {od : Option Obj} {args : List Value} {Q : Option Value → Shared → Prop} (X : K.In s.heap) (I : PySem.W.InstAt s.heap x ox C od)
    (hs : PySem.W.findIn K (.ref C) "__ne__" = some (some (.builtin "object.__ne__")))
    (h : wpAny M A (call (.builtin "object.__ne__") (.ref x :: args)) (fun v => Q (some v)) E s) : wpAny M A (callSpecialIfBound? (.ref x) "__ne__" args) Q E s := by
  simp only [callSpecialIfBound?, bindSpecialIfBound?]
  refine wpAny_holding (wpAny_bind (wpAny_bind (wpAny_bind (I.type.here ((PySem.W.looks_findIn X hs).here ?_)))))
  refine wpAny_bind (wpAny_askSetting (wpAny_ite ?_))
  have fin : wpAny M A (call (.builtin "object.__ne__") ([.ref x] ++ args) >>= fun v => pure (some v)) Q E s := wpAny_bind (wpAny_mono h (fun v s' h' => wpAny_pure h') fun _ _ h' => h')
  split
  · exact wpAny_bind (wpAny_of_eq (F.cmp_object.ne.bind _) (wpAny_pure (by exact fin)))
  · exact wpAny_tryCatch (wpAny_bind (wpAny_of_eq (F.cmp_object.ne.bind _) (wpAny_pure (by exact fin))))
theorem ne_own {prog : Program} {w : World} {A : Around} {E : Value → Shared → Prop} {s : Shared} {K : PySem.W.Frag} {x y C f : Addr} {ox oy : Obj} {od od' : Option Obj} {Q : Value → Shared → Prop} (hu : A.units + 1 < cLine)
    (X : K.In s.heap) (I : PySem.W.InstAt s.heap x ox C od) (J : PySem.W.InstAt s.heap y oy C od') (hm : PySem.W.mroIn K C (.type "object") = some true) (hn : PySem.W.findIn K (.ref C) "__ne__" = some (some (.builtin "object.__ne__")))
    (hs : PySem.W.findIn K (.ref C) "__eq__" = some (some (.ref f))) (hf : PySem.W.isFn K (.ref f) = true)
    (h : wpAny (model prog w) A.in1 (call (.ref f) [.ref x, .ref y]) (fun v s' => ∃ b, v = .bool b ∧ Q (.bool (!b)) s') E s) : wpAny (model prog w) A (richCompare .NotEq (.ref x) (.ref y)) Q E s := by
  have one : wpAny (model prog w) A (tryCompare (.ref x) "__ne__" (.ref y)) (fun r s' => ∃ v, r = some v ∧ Q v s') E s := by
    unfold tryCompare
    refine wpAny_bind (if_bound_ne X I hn (wpAny_call (codeAny_call_builtin F.cmp_object.ne.plain F.cmpEntry_ne (PySem.W.check_slot F.cmpKind_ne F.cmpSplit_ne (I.type.andThen (PySem.W.looks_mroIn X hm)) (F.cmpArgs_ne _ _) ?_))))
    unfold Builtin.«object.__ne__»
    repeat (first
      | with_reducible refine wpAny_cRoomFor hu ?_
      | (refine wpAny_bind (m := callSpecialIfBound? (.ref x) (Str.ofString "__eq__") [.ref y])
          (PySem.W.ifBound_K X I hs hf (wpAny_mono h (fun r s' hr => by
            obtain ⟨b, rfl, hq⟩ := hr
            repeat (first | exact hq | exact wpAny_pure hq | exact wpAny_truthy_bool hq | (refine wpAny_bind (m := truthy (.bool _)) (wpAny_truthy_bool ?_)) | exact ⟨_, rfl, wpAny_pure ⟨_, rfl, hq⟩⟩ | exact ⟨_, rfl, hq⟩ | wp_step)) fun _ _ e => e)))
      | wp_step)
  unfold richCompare
  simp only [oneThing_ref, cmpInfo]
  refine wpAny_holding (wpAny_bind (wpAny_cRoomFor (Nat.lt_of_succ_lt hu) ?_))
  refine wpAny_bind (I.type.here (wpAny_bind (J.type.here ?_)))
  rw [if_neg (by simp)]
  refine wpAny_bind (wpAny_pure ?_)
  simp only [Bool.false_eq_true, if_false]
  refine wpAny_bind (wpAny_mono one (fun r s' z => ?_) fun _ _ e => e)
  obtain ⟨v, rfl, hq⟩ := z
  exact wpAny_pure hq
section
variable {X : Cx} {CX : CXT} {n k : Nat} {C f : Addr} {sp : Sp} {E : XK}
theorem inst_of {pins : List (Addr × Obj)} {σ : L2.St} {H : Hp} {s : Shared} {a dx : Addr} {fs : List (Str × V)} (I : L2.Inv X pins σ H s) (h : H a = some (.ins C dx fs)) : ∃ ox od, PySem.W.InstAt s.heap a ox C od := by
  obtain ⟨mA, J, _⟩ := ins_get I.hok h
  obtain ⟨od, J, _⟩ := J.look
  exact ⟨_, _, J⟩
/-- x + y, instances of the class at C -/
def rAddO (C : Addr) (sp : Sp) (E : XK) : R2 := fun x y H Q => ∃ a b dx dy fs gs, x = .ref a ∧ y = .ref b ∧ H a = some (.ins C dx fs) ∧ H b = some (.ins C dy gs) ∧ sp [x, y] H Q E
theorem op_addO (hc : PySem.W.selfFirst X.K C = true) (hs : PySem.W.findIn X.K (.ref C) "__add__" = some (some (.ref f))) (hf : PySem.W.isFn X.K (.ref f) = true) (F : FnR X.prog X.w X.K X.mg X.base CX n f sp) (hr : Room n X.A) (hx : Passes CX X E) : OpR X (binaryOp .Add) (rAddO C sp E) := by
  intro pins s σ H x y v u Q I rx ry h
  obtain ⟨a, b, dx, dy, fs, gs, rfl, rfl, ha, hb, q⟩ := h
  cases (show v = Value.ref a from rx)
  cases (show u = Value.ref b from ry)
  obtain ⟨oa, oda, J⟩ := inst_of I ha
  obtain ⟨ob, odb, J'⟩ := inst_of I hb
  refine bin_same (op := .Add) I.kIn J J' hc hs hf ?_
  refine wpAny_mono (wpAny_call (run_fnR (us := [.ref a, .ref b]) (vs := [.ref a, .ref b]) F hr hx I (.cons rfl (.cons rfl .nil)) q)) (fun w s' z => ?_) fun _ _ x => x
  obtain ⟨z', H', I', rz, qz⟩ := z
  exact SlX.cmpback rz ⟨z', H', I', rz, qz⟩
/-- x != y, instances of the class at C with an == of their own -/
def rNeO (C : Addr) (sp : Sp) (E : XK) : R2 := fun x y H Q => ∃ a b dx dy fs gs, x = .ref a ∧ y = .ref b ∧ H a = some (.ins C dx fs) ∧ H b = some (.ins C dy gs) ∧ sp [x, y] H (fun v H' => ∃ c, v = .bl c ∧ Q (.bl (!c)) H') E
theorem op_neO (hm : PySem.W.mroIn X.K C (.type "object") = some true) (hn : PySem.W.findIn X.K (.ref C) "__ne__" = some (some (.builtin "object.__ne__"))) (hs : PySem.W.findIn X.K (.ref C) "__eq__" = some (some (.ref f))) (hf : PySem.W.isFn X.K (.ref f) = true)
    (F : FnR X.prog X.w X.K X.mg X.base CX n f sp) (hr : Room (n + 1) X.A) (hx : Passes CX X E) : OpR X (compareOp .NotEq) (rNeO C sp E) := by
  intro pins s σ H x y v u Q I rx ry h
  obtain ⟨a, b, dx, dy, fs, gs, rfl, rfl, ha, hb, q⟩ := h
  cases (show v = Value.ref a from rx)
  cases (show u = Value.ref b from ry)
  obtain ⟨oa, oda, J⟩ := inst_of I ha
  obtain ⟨ob, odb, J'⟩ := inst_of I hb
  show wpAny _ _ (richCompare .NotEq (.ref a) (.ref b)) _ _ _
  refine ne_own (hu_of hr) I.kIn J J' hm hn hs hf ?_
  refine wpAny_mono (wpAny_call (SlX.run_at (us := [.ref a, .ref b]) (ws := [.ref a, .ref b]) F hr.in1 I.env0.in1 hx I (.cons rfl (.cons rfl .nil)) q)) (fun w s' z => ?_) fun _ _ x => x
  obtain ⟨z', H', I', rz, c, ec, qz⟩ := z
  subst ec
  cases rz
  exact ⟨c, rfl, .bl _, H', I', rfl, qz⟩
/-- len(x) of an instance -/
def rLenO (C : Addr) (sp : Sp) (E : XK) : List V → Hp → VK → Prop := fun xs H Q => ∃ a dx fs, xs = [.ref a] ∧ H a = some (.ins C dx fs) ∧ sp [.ref a] H (fun v H' => ∃ i : Nat, v = .int i ∧ i ≤ 1000000 ∧ Q v H') E
theorem cr_lenO (hs : PySem.W.findIn X.K (.ref C) "__len__" = some (some (.ref f))) (hf : PySem.W.isFn X.K (.ref f) = true) (F : FnR X.prog X.w X.K X.mg X.base CX n f sp) (hr : Room (n + 1) X.A) (hx : Passes CX X E) : CallR X (.builtin "len") (rLenO C sp E) := by
  intro pins s σ H xs us Q I r h
  obtain ⟨a, dx, fs, rfl, ha, q⟩ := h
  rw [Vals.ref1 r]
  obtain ⟨oa, oda, J⟩ := inst_of I ha
  obtain ⟨m, hF⟩ := I.fr
  refine PySem.W.len_K hF I.ok.mod.kin J hs hf ?_
  refine wpAny_mono (wpAny_call (SlX.run_at (us := [.ref a]) (ws := [.ref a]) F hr.in1 I.env0.in1 hx I (.cons rfl .nil) q)) (fun w s' z => ?_) fun _ _ x => x
  obtain ⟨z', H', I', rz, i, ei, hi, qz⟩ := z
  subst ei
  obtain ⟨t, e⟩ := (show ∃ t, w = Value.int i t from rz)
  subst e
  refine ⟨⟨by omega, by omega⟩, ?_⟩
  exact ⟨.int i, H', I'.tok _, ⟨_, rfl⟩, qz⟩
variable {x : Str} {e : Expr} {te : TE} {p pos sp_ : Pos}
/-- C() -/
theorem pe_makeR0 (M : Mk X.K C f) (F : FnR X.prog X.w X.K X.mg X.base CX k f sp) (hr : Room (k + 1) X.A) (hg : Gl X x) (hm : X.mg x = some (.ref C)) (hx : Passes CX X E) (hdb : (x == ("__debug__" : Str)) = false := by decide) :
    PE X (.Call (.Name x p) [] [] pos) (StX.tMakeR C sp E tNil) := by
  refine ⟨fun pins s σ H Q I h => ?_⟩
  refine wpAny_Call_Name_kw (ld_glob I hg hm ?_ hdb)
  exact PySem.W.callWith_K0 I.kIn M.kp (StX.run_makeR (us := []) M F hr hx I .nil h)
/-- C(*y) -/
def tMakeS (K : PySem.W.Frag) (C : Addr) (sp : Sp) (E : XK) (te : TE) : TE := fun σ H Q => te σ H fun y H1 => ∃ a xs, y = V.ref a ∧ (SqT K H1 a xs ∨ SqL K H1 a xs) ∧ ∀ x dx, H1 x = none → H1 dx = none → dx ≠ x →
  sp (V.ref x :: xs) (upd (upd H1 dx (.own x)) x (.ins C dx [])) (fun v H2 => v = .non ∧ Q (.ref x) H2) E
theorem pe_makeS1 (M : Mk X.K C f) (F : FnR X.prog X.w X.K X.mg X.base CX k f sp) (hr : Room (k + 1) X.A) (hg : Gl X x) (hm : X.mg x = some (.ref C)) (hx : Passes CX X E) (he : PE X e te) (hd : (x == ("__debug__" : Str)) = false := by decide)
    (hst : starEach [.Starred e sp_] X.env = [(true, eval e X.env)] := by rfl) : PE X (.Call (.Name x p) [.Starred e sp_] [] pos) (tMakeS X.K C sp E te) := by
  refine ⟨fun pins s σ H Q I h => ?_⟩
  refine wpAny_Call_Name_kw (ld_glob I hg hm ?_ hd)
  refine PySem.W.callWith_S (h₀ := X.base) I.ok.mod.kin M.kp (thn (he.run pins s σ H _ I h) fun v s1 ⟨y, H1, I1, ry, a, xs, ey, hxs, q⟩ => ?_) hst
  subst ey
  obtain rfl : v = Value.ref a := ry
  exact StX.star_any I1 hxs fun us s2 I2 rv => ⟨I2.kIn, StX.run_makeR M F hr hx I2 rv q⟩
end
end Lg
/-! Lg7 -/
set_option maxHeartbeats 4000000
namespace Lg
open PySem PySem.Spec PyProof.Rows L2
section
variable {prog : Program} {w : World} {K : Type} [DecidableEq K] {knd : KeyKind prog w K} {A : Around} {E : Value → Shared → Prop} {s : Shared}
theorem copyOf_new {idn : String} {d : Addr} {kvs : List (K × Value)} {Q : Value → Shared → Prop} (hd : (d == sysModules) = false) (hm : s.heap.DictOf knd d kvs) (hsz : kvs.length ≤ sizeLine)
    (h : ∀ h', h'.DictOf knd s.heap.objs.size kvs → h'.DictOf knd d kvs → (∀ b o, s.heap.get? b = some o → h'.get? b = some o) → Q (.ref s.heap.objs.size) { s with heap := h' }) :
    wpAny (model prog w) A (Builtin.Dict.copyOf idn (.ref d)) Q E s := by
  obtain ⟨o, es, ep, ho, hc, hdat, hk, hp, hn⟩ := id hm
  have hes : es.size ≤ sizeLine + 1 := by
    have e1 := hp.length
    have e2 : es.toList.length = es.size := by simp
    omega
  unfold Builtin.Dict.copyOf
  refine wpAny_bind (wpAny_pure ?_)
  unfold Builtin.Dict.showsAll
  rw [if_neg (by rw [hd]; exact Bool.false_ne_true)]
  refine wpAny_bind (wpAny_pure ?_)
  refine wpAny_bind (wpAny_dictEntries ho hdat ?_)
  have fin : ∀ es' : Array DictEntry, es' = es → Q (Value.ref s.heap.objs.size) { s with heap := s.heap.push { cls := .type "dict", data := .dict es' } } := by
    rintro es' rfl
    exact h _ ⟨_, es', 0, Heap.get?_push_size _ rfl, ⟨rfl, rfl, rfl⟩, rfl, hk, hp, hn⟩ (hm.push _) fun b o' e => Heap.get?_push_of_some _ e
  by_cases hemp : es.isEmpty = true
  · rw [if_pos hemp]
    refine wpAny_bind (wpAny_rule (wpAny_newObj_type ?_))
    exact fin #[] (Array.isEmpty_iff.mp hemp).symm
  · rw [if_neg hemp]
    refine wpAny_bind ?_
    unfold Builtin.Dict.readDirectly
    refine wpAny_bind (wpAny_isInstance hm.typeIs isSubtype_dict_dict ?_)
    simp only [Bool.not_true, Bool.false_eq_true, if_false]
    refine wpAny_bind (wpAny_specialOf hm.typeIs F.slot_dict_iter.lookup (wpAny_pure ?_))
    simp only [beq_self_eq_true, if_true]
    exact wpAny_bind (wpAny_entriesForEmpty (knd := knd) ho hdat hk (wpAny_newObj_type (fin es rfl) hes))
theorem dict_or_call {a b : Addr} {kvs more : List (K × Value)} {Q : Value → Shared → Prop} (ha0 : (a == sysModules) = false) (hb0 : (b == sysModules) = false) (ha : s.heap.DictOf knd a kvs) (hb : s.heap.DictOf knd b more) (hsz : kvs.length + more.length ≤ sizeLine)
    (h : ∀ h', h'.DictOf knd s.heap.objs.size (merged kvs more) → (∀ c o, s.heap.get? c = some o → h'.get? c = some o) → Q (.ref s.heap.objs.size) { s with heap := h' }) :
    wpAny (model prog w) A (binaryOp .BitOr (.ref a) (.ref b)) Q E s := by
  refine wpAny_binaryOp_same (op := .BitOr) ha.typeIs hb.typeIs F.fills_dict_or F.slot_dict_or ?_
  refine wpAny_call_entry F.slot_dict_or ha.typeIs F.entry_dict_or ?_ (F.args_dict_or_2 _ _)
  unfold Builtin.«dict.__or__»
  refine wpAny_bind ?_
  unfold Builtin.Dict.dictSlotArgs
  refine wpAny_bind (wpAny_notOrdered_dict ha.typeIs ?_)
  show wpAny _ _ (pure (Value.ref a, Value.ref b)) _ _ s
  refine wpAny_pure ?_
  refine wpAny_bind ?_
  refine wpAny_bind (wpAny_isInstance ha.typeIs isSubtype_dict_dict ?_)
  show wpAny _ _ (isInstance (.ref b) (.type "dict")) _ _ _
  refine wpAny_isInstance hb.typeIs isSubtype_dict_dict ?_
  simp only [Bool.not_true, Bool.false_eq_true, if_false]
  refine wpAny_bind (copyOf_new ha0 ha (by omega) fun h1 hn1 ha1 hk1 => ?_)
  refine wpAny_bind (wpAny_pure ?_)
  refine wpAny_holding ?_
  have hb1 : h1.DictOf knd b more := by
    obtain ⟨o, es, ep, ho, r⟩ := hb
    exact ⟨o, es, ep, hk1 _ _ ho, r⟩
  have hnb : s.heap.objs.size ≠ b := by
    obtain ⟨o, _, _, ho, _⟩ := hb
    exact Nat.ne_of_gt (Heap.lt_size ho)
  unfold Builtin.Dict.updateFrom
  refine wpAny_bind (wpAny_typeOf (s := { s with heap := h1 }) hb1.typeIs ?_)
  rw [if_neg (by decide)]
  refine wpAny_bind ?_
  unfold Builtin.Dict.merge
  refine wpAny_bind ?_
  unfold Builtin.Dict.readDirectly
  refine wpAny_bind (wpAny_isInstance (s := { s with heap := h1 }) hb1.typeIs isSubtype_dict_dict ?_)
  simp only [Bool.not_true, Bool.false_eq_true, if_false]
  refine wpAny_bind (wpAny_specialOf (s := { s with heap := h1 }) hb1.typeIs F.slot_dict_iter.lookup (wpAny_pure ?_))
  simp only [beq_self_eq_true, if_true]
  refine wpAny_bind (wpAny_pure ?_)
  refine wpAny_mergeDict (s := { s with heap := h1 }) (hsz := hsz) hnb hb0 hn1 hb1 fun h' hd' ho' hs' => ?_
  show wpAny _ _ (Builtin.Dict.addKeywords _ [] >>= _) _ _ _
  refine wpAny_bind (wpAny_pure (wpAny_pure ⟨_, rfl, (fun z => by cases z), h h' hd' fun c o e => ?_⟩))
  exact (hs'.2 c (Nat.ne_of_lt (Heap.lt_size e))).trans (hk1 c o e)
end
section
variable {X : Cx}
def rOrD : R2 := fun x y H Q => ∃ a b ks ls, x = .ref a ∧ y = .ref b ∧ H a = some (.dK ks) ∧ H b = some (.dK ls) ∧ ks.length + ls.length ≤ 1000000 ∧ ∀ p, H p = none → Q (.ref p) (upd H p (.dK (mergeK ks ls)))
theorem op_orD : OpR X (binaryOp .BitOr) rOrD := by
  intro pins s σ H x y v u Q I rx ry h
  obtain ⟨a, b, ks, ls, rfl, rfl, ha, hb, hz, q⟩ := h
  cases (show v = Value.ref a from rx)
  cases (show u = Value.ref b from ry)
  obtain ⟨z1, s1, vs, kv1, d1⟩ := I.hok a _ ha
  obtain ⟨z2, s2, us, kv2, d2⟩ := I.hok b _ hb
  have hl1 : ks.length = vs.length := Paired.length kv1
  have hl2 : ls.length = us.length := Paired.length kv2
  have h1 : (1000000 : Nat) ≤ sizeLine := line_le (Nat.le_refl _)
  refine dict_or_call s1 s2 d1 d2 (by omega) fun h' hd hk => ?_
  have hlen : (mergeK ks ls).length ≤ sizeLine := by
    have := length_mergeK ls ks
    omega
  have hsys : (s.heap.objs.size == sysModules) = false := beq_eq_false_iff_ne.mpr (Ne.symm (Nat.ne_of_lt I.big))
  exact ⟨.ref s.heap.objs.size, _, I.laid (t' := s.toks) (o := .dK (mergeK ks ls)) hk (Nat.le_refl _) (dk_new hlen hsys (kv2.merge kv1) hd), rfl, q _ (I.hok.fresh (Nat.le_refl _))⟩
end
end Lg
/-! Lg8 -/
set_option maxHeartbeats 4000000
namespace Lg
open PySem PySem.Spec PyProof.Rows L2
def gSl (K : PySem.W.Frag) (ta : TE) (f : Str) : TG := fun v σ H Q => ta σ H fun x H2 => ∃ a C dx p vs i, x = .ref a ∧ SlX.Slt H2 a C dx vs ∧ SlX.SCls K C ∧ SlX.Slot1 K C f p i ∧ Q σ (SlX.slH H2 a C dx (SlX.putS i v vs))
theorem pg_sl {X : Cx} {o : Expr} {ta : TE} {f : Str} {pos : Pos} (ho : PE X o ta) : PG X (.Attribute o f pos) (gSl X.K ta f) := by
  refine ⟨fun pins s σ H v u Q I r h => ?_⟩
  rw [assign_Attribute]
  refine wpAny_bind (wpAny_holding (thn (ho.run pins s σ H _ I h) fun ov s1 ⟨x, H1, I1, rx, a, C, dx, p, vs, i, ex, hsl, c, t, q⟩ => ?_))
  subst ex
  obtain rfl : ov = Value.ref a := rx
  refine wpAny_bind (wpAny_standAt (wpAny_bind (wpAny_holding (SlX.setslot_ok I1 hsl c t r fun s3 I3 => ?_))))
  exact wpAny_release ⟨σ, _, I3, q⟩
end Lg
/-! Lg9 -/
set_option maxHeartbeats 4000000
namespace Lg
open PySem PySem.Spec PyProof.Rows L2
def tWith (C : Addr) (spE spX : Sp) (E : XK) (te : TE) (i : Nat) (tb : TS) : TS := fun D σ H => te σ H fun x H1 => ∃ a dx fs, x = .ref a ∧ H1 a = some (.ins C dx fs) ∧
  spE [x] H1 (fun v H2 => tb ⟨fun σ' H' => spX [x, .non, .non, .non] H' (fun _ H'' => D.nx σ' H'') E, fun _ _ => False, fun _ _ => False, fun _ _ => False⟩ (σ.set i (some v)) H2) E
theorem ps_with {X : Cx} {CX : CXT} {n m i : Nat} {C fe fx : Addr} {spE spX : Sp} {E : XK} {ctx : Expr} {y : Str} {py pos : Pos} {body : List Stmt} {te : TE} {tb : TS} (he : PE X ctx te) (hN : X.N.Nodup) (hi : X.N[i]? = some y) (hy : Loc X.env.scope y)
    (he1 : PySem.W.findIn X.K (.ref C) "__enter__" = some (some (.ref fe))) (he2 : PySem.W.isFn X.K (.ref fe) = true) (hx1 : PySem.W.findIn X.K (.ref C) "__exit__" = some (some (.ref fx))) (hx2 : PySem.W.isFn X.K (.ref fx) = true)
    (FE : FnR X.prog X.w X.K X.mg X.base CX n fe spE) (FX : FnR X.prog X.w X.K X.mg X.base CX m fx spX) (hr : Room n X.A) (hr2 : Room m X.A) (hp : Passes CX X E) (hb : PSs X.nox body tb)
    (hf : X.fn y = true ∨ X.env.scope.names.lookup y = some .local := by first | exact .inl rfl | exact .inr rfl) :
    PS X (.With [⟨ctx, some (.Name y py)⟩] body pos) (tWith C spE spX E te i tb) := by
  refine ⟨fun pins s σ H D I h => ?_⟩
  refine PySem.W.kw_execN (thn (he.run pins s σ H _ I h) fun v s1 ⟨x, H1, I1, rx, a, dx, fs, ex, ha, q⟩ => ?_)
  subst ex
  obtain rfl : v = Value.ref a := rx
  obtain ⟨mA, J, _⟩ := ins_get I1.hok ha
  obtain ⟨od, J, _⟩ := J.look
  obtain ⟨m0, hF⟩ := I1.fr
  refine PySem.W.kw_inN hF I1.ok.mod.kin J he1 he2 hx1 hx2 ?_
  refine thn (wpAny_call (run_fnR (us := [.ref a]) (vs := [.ref a]) FE hr hp I1 (.cons rfl .nil) q)) fun u s2 ⟨w, H2, I2, rw', q2⟩ => ?_
  refine store_ok I2 hN hi hy rw' (fun s3 I3 => ?_) hf
  refine thn (hb.run pins s3 _ _ _ (I3.wish fun _ _ => False) q2) fun f s4 q4 => ?_
  cases f with
  | next =>
    obtain ⟨σ', H4, I4, q5⟩ := q4
    have I5 : L2.Inv X pins σ' H4 s4 := I4.unwish
    show wpAny (model X.prog X.w) X.A (call (.ref fx) [.ref a, .none, .none, .none]) _ X.xe s4
    refine thn (wpAny_call (run_fnR (us := [.ref a, .none, .none, .none]) (vs := [.ref a, .non, .non, .non]) FX hr2 hp I5 (.cons rfl (.cons rfl (.cons rfl (.cons rfl .nil)))) q5)) fun u2 s5 ⟨w5, H5, I6, _, q6⟩ => ?_
    exact ⟨σ', H5, I6, q6⟩
  | brk =>
    obtain ⟨σ', H4, I4, q5⟩ := q4
    exact q5.elim
  | cont =>
    obtain ⟨σ', H4, I4, q5⟩ := q4
    exact q5.elim
  | ret v =>
    obtain ⟨x, σ', H4, I4, r, q5⟩ := q4
    exact q5.elim
end Lg
/-! Lg10 -/
set_option maxHeartbeats 4000000
namespace Lg
open PySem PySem.Spec PyProof.Rows L2
section
variable {X : Cx}
def rEqT0 (K : PySem.W.Frag) : R2 := fun x y H Q => ∃ a b xs, x = .ref a ∧ y = .ref b ∧ SqT K H a xs ∧ SqT K H b [] ∧ Q (.bl xs.isEmpty) H
theorem op_eqT0 (hu : X.A.units + 1 < cLine) : OpR X (compareOp .Eq) (rEqT0 X.K) := by
  intro pins s σ H x y v u Q I rx ry h
  obtain ⟨a, b, xs, rfl, rfl, ha, hb, q⟩ := h
  cases (show v = Value.ref a from rx)
  cases (show u = Value.ref b from ry)
  obtain ⟨its, rv, ⟨oa, hoa, hca, n, hda⟩, _⟩ := I.tuple ha
  obtain ⟨its2, rv2, ⟨ob, hob, hcb, n2, hdb⟩, _⟩ := I.tuple hb
  cases rv2
  obtain ⟨ca, dda, daa, sla⟩ := oa
  obtain ⟨cb, ddb, dab, slb⟩ := ob
  simp only at hca hda hcb hdb
  subst hca hda hcb hdb
  show wpAny _ _ (richCompare .Eq (.ref a) (.ref b)) _ _ _
  refine richCompare_meets_room (op := .Eq) (T := "tuple") ⟨_, hoa, rfl⟩ ⟨_, hob, rfl⟩ PySem.F.slot_tuple_eq PySem.F.entry_tuple_eq (PySem.F.args_tuple_eq_2 _ _) (SeqAt.tuple_eqAt a b its.toArray _ n n2 dda ddb sla slb (fun _ => true)) ⟨hoa, hob, fun j h1 h2 => ?_, ?_⟩ (by omega)
  · exact absurd h2 (by simp)
  · have hl := rv.length
    have e : ((List.range (min its.toArray.size ([] : List Value).toArray.size)).all (fun _ => true) && its.toArray.size == ([] : List Value).toArray.size) = xs.isEmpty := by
      cases xs with
      | nil =>
        cases rv
        rfl
      | cons x xs =>
        cases rv
        rfl
    rw [e]
    exact ⟨(fun z => by cases z), .bl _, H, I, rfl, q⟩
end
end Lg
/-! Lg11 -/
set_option maxHeartbeats 4000000
namespace Lg
open PySem PySem.Spec PyProof.Rows L2
section
variable {X : Cx} {x : Str} {S : Addr} {e : Expr} {es : List Expr} {ta : TA} {p1 p2 pos : Pos}
theorem pe_seinit {pl : Sem Bool} (hg : Gl X x) (hm : X.mg x = some (.ref S)) (sg : PySem.W.specialIn X.K (.ref S) "__getattribute__" = some (some (.builtin "type.__getattribute__"))) (sr : PySem.W.readsIn X.K S (.type "type") = true)
    (sv : PySem.W.findCls X.K (.ref S) (.type "type") "__init__" = some (.val (.builtin "ValueError.__init__"))) (ha : PA X (e :: es) ta)
    (hdb : (x == ("__debug__" : Str)) = false := by decide)
    (hc : eval (.Call (.Attribute (.Name x p1) "__init__" p2) (e :: es) [] pos) X.env = (do
      let ov ← eval (.Name x p1) X.env
      standAt p2.atName
      let (f, first) ← holding [ov] (getMethod ov "__init__" pl)
      callWith pos f first (backTo pos (starEach (e :: es) X.env)) (backToKw pos (keywordEach [] X.env))) := by rfl)
    (he : starEach (e :: es) X.env = (false, eval e X.env) :: starEach es X.env := by rfl) (hpl : (backTo pos (starEach es X.env)).any (·.1) = false := by rfl) :
    PE X (.Call (.Attribute (.Name x p1) "__init__" p2) (e :: es) [] pos) (tVeI X.K ta) := by
  refine ⟨fun pins s σ H Q I h => ?_⟩
  refine PySem.W.methodCall_KW (ld_glob I hg hm ?_ hdb) hc
  refine PySem.W.method_cls I.kIn sg (PySem.W.cls_value I.kIn sr sv (by decide +kernel) ?_)
  show wpAny _ _ (callWith pos (Value.builtin "ValueError.__init__") [] (backTo pos (starEach (e :: es) X.env)) []) _ _ _
  refine PyProof.Rows.callWith_method1 (thn (ha.run pos pins _ σ H _ (I.tok _) h) fun us s1 ⟨vs, H1, I1, r1, a, C, ws, ev, hl, T, ea, q⟩ => ?_) he hpl
  subst ev
  cases r1 with
  | @cons _ u0 _ ur ra rw' =>
    obtain rfl : u0 = Value.ref a := ra
    have hlen : ur.length ≤ sizeLine := by
      rw [← Paired.length rw', sizeLine_eq]
      omega
    exact oinit_ok T I1 ea hlen fun s' J => ⟨.non, H1, J, rfl, q⟩
end
end Lg
/-! Lg12 -/
set_option maxHeartbeats 4000000
namespace Lg
open PySem PySem.Spec PyProof.Rows L2
theorem dc_it {J : It} {n : Nat} {G : Hp → Prop} {Y : Nat → Hp → V → Hp → Prop} (w : Walk J n G Y) {g : TG} {tt : TT} {tk tv : TE} {vs : List Nat} {σ : L2.St} {H1 : Hp} {D : Addr} {Qd : Hp → Prop} (Pv : Nat → Hp → Prop) (h0 : Pv 0 (upd H1 D (.dK []))) (hG : ∀ i H, i ≤ n → Pv i H → G H)
    (hs : ∀ i x H H', i < n → Pv i H → Y i H x H' → g x (wipe σ vs) H' fun σ2 H2 => wipe σ2 vs = wipe σ vs ∧ tt σ2 H2 fun b H3 =>
      if b = true then tk σ2 H3 fun y H4 => tv σ2 H4 fun z H5 => ∃ kvs k, y = kV k ∧ H5 D = some (.dK kvs) ∧ kvs.length < sizeLine ∧ Pv (i + 1) (upd H5 D (.dK (putK kvs k z))) else Pv (i + 1) H3) (hd : ∀ H, Pv n H → Qd H) :
    ∃ W : Nat → Nat → Hp → Prop, (∃ m, W 0 m (upd H1 D (.dK []))) ∧ ∀ i m H, W i m H →
      (J.stop i H ∧ Qd H) ∨ (J.go i H ∧ ∃ Nx : Hp → Prop, (∀ H', Nx H' → ∃ m', m' < m ∧ W (i + 1) m' H') ∧ ∀ x H', J.yld i H x H' → g x (wipe σ vs) H' fun σ2 H2 => wipe σ2 vs = wipe σ vs ∧ tt σ2 H2 fun b H3 =>
        if b = true then tk σ2 H3 fun y H4 => tv σ2 H4 fun z H5 => ∃ kvs k, y = kV k ∧ H5 D = some (.dK kvs) ∧ kvs.length < sizeLine ∧ Nx (upd H5 D (.dK (putK kvs k z))) else Nx H3) := by
  refine ⟨fun i m H => m = n - i ∧ i ≤ n ∧ Pv i H, ⟨n, by simp, Nat.zero_le _, h0⟩, ?_⟩
  rintro i m H ⟨rfl, hi, p⟩
  have q := hG i H hi p
  by_cases hlt : i < n
  · refine .inr ⟨w.goes i H hlt q, Pv (i + 1), fun H' p' => ⟨n - (i + 1), by omega, rfl, hlt, p'⟩, fun x H' y => hs i x H H' hlt p (w.yields i H x H' hlt q y)⟩
  · have e : i = n := by omega
    subst e
    exact .inl ⟨w.stops H q, hd H p⟩
end Lg
/-! Lg13 -/
set_option maxHeartbeats 4000000
namespace Lg
open PySem PySem.Spec PyProof.Rows L2
section
variable {X : Cx}
theorem ps_setDc {i : Nat} {y : Str} {py : Pos} {kx vx tg iter : Expr} {ifs : List Expr} {scope : Scope} {own : List (Str × Nat)} {pos spos : Pos} {wi : TI} {g : TG} {tt : TT} {tk tv : TE} (hc : X.calm = true) (hN : X.N.Nodup) (hy : X.N[i]? = some y) (hyl : X.env.scope.names.lookup y = some .local)
    (hsw : swapsWith (.DictComp kx vx [⟨tg, iter, ifs, 0⟩] scope pos) (some (.Name y py)) spos.line X.env = pure true) (hi : PI X tg iter wi) (ok : BlkOk X.N X.env.scope scope own)
    (hg : ∀ (s : Shared) (H : Hp) (C : Addr) (cl : List (Str × Addr)) (fp : List Addr), PG (X.blk s H scope (compEnvC scope cl C X.env) fp) tg g) (ht : ∀ (s : Shared) (H : Hp) (C : Addr) (cl : List (Str × Addr)) (fp : List Addr), PTs (X.blk s H scope (compEnvC scope cl C X.env) fp) ifs tt)
    (hk : ∀ (s : Shared) (H : Hp) (C : Addr) (cl : List (Str × Addr)) (fp : List Addr), PE (X.blk s H scope (compEnvC scope cl C X.env) fp) kx tk)
    (he : ∀ (s : Shared) (H : Hp) (C : Addr) (cl : List (Str × Addr)) (fp : List Addr), PE (X.blk s H scope (compEnvC scope cl C X.env) fp) vx tv) (hs : ∀ x, foldedSetIterable iter X.env x = pure x := by intro _; rfl) :
    PS X (.Assign [.Name y py] (.DictComp kx vx [⟨tg, iter, ifs, 0⟩] scope pos) spos) (tAsg (tDc wi g tt tk tv (own.map (·.2))) (gName i)) := by
  refine ⟨fun pins s σ H D I h => ?_⟩
  rw [exec_Assign_Name_used _ _ _ _ hsw]
  refine wpAny_bind (wpAny_standAt (wpAny_bind ?_))
  show wpAny _ X.A (do let _ ← comprehension (.DictComp kx vx [⟨tg, iter, ifs, 0⟩] scope pos) scope X.env (firstIterPos [⟨tg, iter, ifs, 0⟩] pos) newDict false (eval iter X.env) (some (assign (.Name y py) X.env))) _ _ s
  have h : tDc wi g tt tk tv (own.map (·.2)) σ H (fun x H1 => gName i x σ H1 D.nx) := h
  refine wpAny_bind (thn (dc_core (Qf := fun _ s' => SP X pins D .next s') hc hN I hi ok hg ht hk he hs h fun L C s' m H' I' q hn f => ?_) fun _ s' hq => wpAny_pure (wpAny_pure hq))
  show wpAny _ _ (assign (.Name y py) X.env (.ref L)) _ _ _
  refine wpAny_assign_Name (store_ok2 (v := V.ref L) I' hN hy (.inl hyl) rfl (fun s2 I2 ⟨a, sb, ha⟩ => ?_) (.inr hyl))
  obtain ⟨f0, f1, f2, f3, f4, f5⟩ := f
  have haC : C ≠ a := by
    rcases ha with z | z
    · rw [z]; exact f1
    · exact fun e => f4 y a z e.symm
  refine ⟨m, hn.sameBut sb haC, fun h3 sb3 => ?_⟩
  exact ⟨_, H', I2.turned (t' := s2.toks) (fun b o hb e => (sb3.2 b hb).trans e) f0 f1 f3 f4 f5, q⟩
theorem sw_trueD {kx vx : Expr} {gs : List Comprehension} {scope : Scope} {pos py : Pos} {y : Str} {l : Nat} {env : Env} (hk : env.scope.kind = .function) (hy : env.scope.names.lookup y = some .local) (hl : (py.line == pos.line) = true)
    (ha : (scope.names.any fun (n, k) => n == y && (k == .local || k == .cell)) = false) : swapsWith (.DictComp kx vx gs scope pos) (some (.Name y py)) l env = pure true := by
  have ky : env.kindOf y = some .local := hy
  have hb : env.blockKind = .function := by unfold Env.blockKind; rw [hk]; rfl
  unfold swapsWith
  simp only [hb, ky, ha, Expr.pos, hl]
  rfl
end
end Lg
/-! Lg14 -/
set_option maxHeartbeats 4000000
namespace Lg
open PySem L2
section
variable {K : PySem.W.Frag}
def OffOk (R : Rp) : Prop := ∀ v B e kvs, B e = some (.dK kvs) → R v B → R v (off B e)
theorem sqT_off {B : Hp} {e a : Addr} {kvs : List (Key × V)} {xs : List V} (he : B e = some (.dK kvs)) (h : SqT K B a xs) : SqT K (off B e) a xs := by
  rcases h with (h | ⟨o, h⟩) | h
  · refine .inl (.inl ?_)
    rw [off_ne]
    · exact h
    · rintro rfl
      rw [he] at h
      cases h
  · refine .inl (.inr ⟨o, ?_⟩)
    rw [off_ne]
    · exact h
    · rintro rfl
      rw [he] at h
      cases h
  · exact .inr h
theorem ins_off {B : Hp} {e a C dx : Addr} {fs : List (Str × V)} {kvs : List (Key × V)} (he : B e = some (.dK kvs)) (h : B a = some (.ins C dx fs)) : off B e a = some (.ins C dx fs) := by
  rw [off_ne]
  · exact h
  · rintro rfl
    rw [he] at h
    cases h
theorem PairR.off {B : Hp} {e : Addr} {kvs : List (Key × V)} (he : B e = some (.dK kvs)) : ∀ {Rs : List Rp} {vs : List V}, (∀ R ∈ Rs, OffOk R) → PairR Rs vs B → PairR Rs vs (off B e)
  | [], [], _, _ => trivial
  | R :: Rs, v :: vs, m, h => ⟨m R (List.mem_cons_self ..) v B e kvs he h.1, PairR.off he (fun S hS => m S (List.mem_cons_of_mem _ hS)) h.2⟩
  | [], _ :: _, _, h => h.elim
  | _ :: _, [], _, h => h.elim
theorem off_rule (x : Ru) : OffOk (rRule K x) := fun _ _ _ _ he ⟨a, dx, t, e, h, k⟩ => ⟨a, dx, t, e, ins_off he h, sqT_off he k⟩
theorem off_mem {α : Type} {f : α → Rp} (h : ∀ a, OffOk (f a)) {l : List α} : ∀ R ∈ l.map f, OffOk R := fun R hR => by
  obtain ⟨a, _, rfl⟩ := List.mem_map.mp hR
  exact h a
theorem off_stackOf {ents : List Rp} {rs : List Ru} {ms : List Str} {d : Int} (m : ∀ R ∈ ents, OffOk R) : OffOk (rStackOf K ents rs ms d) := fun _ _ _ _ he ⟨a, dx, p, st, n, vs, ws, e, h, h1, h2, h3, h4, h5⟩ =>
  ⟨a, dx, p, st, n, vs, ws, e, ins_off he h, sqT_off he h1, h2.off he m, sqT_off he h3, h4.off he (off_mem off_rule), sqT_off he h5⟩
theorem off_en : ∀ e : En, OffOk (rEn K e)
  | .r x => off_rule x
  | .s xs => off_stackOf (off_mem off_rule)
theorem off_stack (es : List En) : OffOk (rStack K es) := off_stackOf (off_mem off_en)
end
end Lg
/-! Lg15 -/
set_option maxHeartbeats 4000000
namespace Lg
open PySem PySem.Spec PyProof.Rows L2
def tGetKd (K : PySem.W.Frag) (w : World) (td ty tx : TE) : TE := fun σ H Q => td σ H fun x H1 => ∃ a es n, x = .ref a ∧ KDict K w a es n ∧ ty σ H1 fun y H2 => tx σ H2 fun z H3 => ∃ k u v, y = .str k ∧ PySem.W.nsIn K a k = some (some u) ∧ RelV v u ∧ Q v H3
variable {X : Cx} {o e f : Expr} {apos cpos : Pos} {td ty tx : TE}
theorem pe_getKd (ho : PE X o td) (he : PE X e ty) (hf : PE X f tx) (m : M2 X o "get" apos e f cpos) : PE X (.Call (.Attribute o "get" apos) [e, f] [] cpos) (tGetKd X.K X.w td ty tx) := by
  refine ⟨fun pins s σ H Q I h => ?_⟩
  refine wpAny_Call_method m.base m.few m.line PySem.F.plainAttrs_dict PySem.F.slot_dict_get PySem.F.type_dict_get (thn (ho.run pins s σ H _ I h) fun u s1 ⟨x, H1, I1, rx, a, es, n, ex, D, q1⟩ => ?_)
  subst ex
  obtain rfl : u = Value.ref a := rx
  have hm := PySem.W.mapOf_K (prog := X.prog) (w := X.w) I1.kIn D.at_ D.lit
  refine ⟨hm.typeIs, fun b q => ?_, ?_⟩
  · cases q
    exact ⟨_, I1.kIn _ _ D.at_, rfl⟩
  rw [m.trees]
  refine Calls.callWith_builtin rfl (Calls.evalArgs_plain (Calls.spliced_cons (thn (he.run pins s1 σ H1 _ I1 q1) fun iv s2 ⟨y, H2, I2, ry, q2⟩ =>
    Calls.spliced_cons (thn (hf.run pins s2 σ H2 _ I2 q2) fun fv s3 ⟨z, H3, I3, rz, k, u0, v0, ey, eu, ru, q3⟩ => Calls.spliced_nil ?_))))
  subst ey
  obtain ⟨t, rfl⟩ := ry
  have hm3 := PySem.W.mapOf_K (prog := X.prog) (w := X.w) I3.kIn D.at_ D.lit
  refine call_meetsIn PySem.F.slot_dict_get hm3.typeIs PySem.F.entry_dict_get (PySem.F.args_dict_get_3 _ _ _) (meets_dict_get_default (strKind X.prog X.w) a (PySem.strKind_is X.prog X.w k t) D.low fv) ⟨_, hm3, ?_⟩
  rw [PySem.W.find_K D.at_ eu]
  exact ⟨v0, H3, I3.tok _, ru, q3⟩
end Lg
/-! Lg16 -/
set_option maxHeartbeats 4000000
namespace Lg
open PySem L2
theorem lc_inv {J : It} {n : Nat} {G : Hp → Prop} {Y : Nat → Hp → V → Hp → Prop} (w : Walk J n G Y) {M : Addr → Prop} {g : TG} {tt : TT} {te : TE} {vs : List Nat} {σ : L2.St} {B1 H1 : Hp} {D : Addr} {Qd : Hp → Prop}
    (S : Hp → Hp → Prop) (Pr : Nat → List V → Hp → Prop) (s1 : Same B1 H1) (hD : H1 D = none) (hM : MOk M B1 H1) (hn : n < sizeLine) (hG : ∀ B H, Gr M B1 H1 B H → G H)
    (h0 : S B1 H1) (p0 : Pr 0 [] B1) (hS : ∀ B H o, S B H → S B (upd H D o)) (mP : ∀ i ys B B', Same B B' → Pr i ys B → Pr i ys B')
    (step : ∀ i x B H H', i < n → Gr M B1 H1 B H → S B H → Y i H x H' → ∀ (Ky : V → Hp → Prop) (Kn : Hp → Prop), (∀ y B2 H2, Gr M B H B2 H2 → S B2 H2 → (∀ ys, Pr i ys B → Pr (i + 1) (ys ++ [y]) B2) → Ky y H2) → (∀ B2 H2, Gr M B H B2 H2 → S B2 H2 → (∀ ys, Pr i ys B → Pr (i + 1) ys B2) → Kn H2) →
      g x (wipe σ vs) H' fun σ2 H2 => wipe σ2 vs = wipe σ vs ∧ tt σ2 H2 fun b H3 => if b = true then te σ2 H3 Ky else Kn H3)
    (hd : ∀ ys B H, Gr M B1 H1 B H → S B H → B D = none → H D = some (.lst ys) → ys.length ≤ n → Pr n ys B → Qd H) :
    ∃ W : Nat → Nat → Hp → Prop, (∃ m, W 0 m (upd H1 D (.lst []))) ∧ ∀ i m H, W i m H →
      (J.stop i H ∧ Qd H) ∨ (J.go i H ∧ ∃ Nx : Hp → Prop, (∀ H', Nx H' → ∃ m', m' < m ∧ W (i + 1) m' H') ∧ ∀ x H', J.yld i H x H' → g x (wipe σ vs) H' fun σ2 H2 => wipe σ2 vs = wipe σ vs ∧ tt σ2 H2 fun b H3 =>
        if b = true then te σ2 H3 fun y H4 => ∃ acc, H4 D = some (.lst acc) ∧ acc.length < sizeLine ∧ Nx (upd H4 D (.lst (acc ++ [y]))) else Nx H3) := by
  have nMD : ¬ M D := fun z => by
    obtain ⟨_, o, e⟩ := hM D z
    rw [hD] at e; cases e
  have hBD : B1 D = none := s1.free hD
  refine lc_it w (fun i H => ∃ B ys, Gr M B1 H1 B H ∧ S B H ∧ B D = none ∧ H D = some (.lst ys) ∧ ys.length ≤ i ∧ Pr i ys B) ?_ (fun i H _ ⟨B, ys, g, _⟩ => hG B H g) ?_ ?_
  · exact ⟨B1, [], (Gr.refl s1).mut hBD (.inl hD), hS _ _ _ h0, hBD, upd_same, Nat.le_refl _, p0⟩
  · rintro i x H H' hi ⟨B, ys, g, hs, hB, hH, hl, hP⟩ hy
    refine step i x B H H' hi g hs hy _ _ (fun y B2 H2 g2 s2 hR => ?_) (fun B2 H2 g2 s2 hR => ?_)
    · have h2D : H2 D = some (.lst ys) := g2.keep D _ nMD hH
      have hB2 : B2 D = none := g2.new D _ hB hH
      refine ⟨ys, h2D, by omega, B2, ys ++ [y], (Gr.trans hM g g2).mut hB2 (.inl hD), hS _ _ _ s2, hB2, upd_same, by rw [List.length_append]; exact Nat.add_le_add_right hl 1, hR ys hP⟩
    · exact ⟨B2, ys, Gr.trans hM g g2, s2, g2.new D _ hB hH, g2.keep D _ nMD hH, by omega, hR ys hP⟩
  · rintro H ⟨B, ys, g, hs, hB, hH, hl, hP⟩
    exact hd ys B H g hs hB hH hl hP
end Lg
/-! Lg17 -/
set_option maxHeartbeats 4000000
namespace Lg
open PySem PySem.Spec PyProof.Rows L2
def tTupM (r : V → List V → Hp → VK → Prop) (t0 t : TA) : TE := fun σ H Q => t0 σ H fun xs H1 => xs.length ≤ sizeLine ∧ ∀ p, H1 p = none → t σ (upd H1 p (.tup xs)) fun vs H2 => r (.ref p) vs H2 Q
variable {X : Cx} {e : Expr} {es fs : List Expr} {t0 t : TA} {name : Str} {apos cpos tpos : Pos} {x1 : Nat} {id : String} {r : V → List V → Hp → VK → Prop}
theorem pe_tupM (pa : PlainAttrs "tuple") (slot : Slot "tuple" name id) (hty : typeOf (.builtin id) = pure (.type "method_descriptor")) (hm : MtR X id r) (h0 : PA X fs t0) (ha : PA X (e :: es) t)
    (hbase : attributeBase (.Tuple fs x1 tpos) name X.env (eval (.Tuple fs x1 tpos) X.env) = eval (.Tuple fs x1 tpos) X.env := by rfl)
    (hfew : ((backTo cpos (starEach (e :: es) X.env)).all (fun x => !x.1) && (backToKw cpos (keywordEach [] X.env)).all (fun x => x.1.isSome)
      && decide ((e :: es).length + ([] : List Keyword).length + (if ([] : List Keyword).isEmpty then 0 else 1) < 30)) = true := by rfl)
    (hline : (apos.endLine == cpos.line) = true := by rfl) (hs : starEach (e :: es) X.env = (false, eval e X.env) :: starEach es X.env := by rfl) (hplain : (backTo cpos (starEach es X.env)).any (·.1) = false := by rfl) :
    PE X (.Call (.Attribute (.Tuple fs x1 tpos) name apos) (e :: es) [] cpos) (tTupM r t0 t) := by
  refine ⟨fun pins s σ H Q I h => ?_⟩
  refine wpAny_Call_method_late hbase hfew hline rfl (wpAny_Tuple_spliced (thn (h0.run tpos pins s σ H _ I h) fun us s1 ⟨xs, H1, I1, r, z, q⟩ => ⟨by rw [← r.length]; exact z, ?_⟩))
  have hf : H1 s1.heap.objs.size = none := I1.hok.fresh (Nat.le_refl _)
  have I2 : Inv X pins σ (upd H1 s1.heap.objs.size (.tup xs)) { s1 with heap := s1.heap.push { cls := .type "tuple", data := .seq us.toArray } } := I1.laid (t' := s1.toks) (fun b u e => Heap.get?_push_of_some _ e) (Nat.le_refl _) ⟨z, us, r, ⟨_, Heap.get?_push_size s1.heap rfl, rfl, _, rfl⟩⟩
  refine ⟨"tuple", id, pa, slot, hty, ⟨_, Heap.get?_push_size _ rfl, rfl⟩, fun a ea => ?_, ?_⟩
  · cases ea
    exact ⟨_, Heap.get?_push_size _ rfl, rfl⟩
  have hA := ha.run cpos pins _ σ _ _ I2 (q _ hf)
  rw [hs] at hA ⊢
  refine Calls.callWith_builtin (by show (false || (backTo cpos (starEach es X.env)).any (·.1)) = false; rw [hplain] <;> rfl) (Calls.evalArgs_plain ?_)
  exact thn hA fun us s2 ⟨vs, H2, I2, r2, q2⟩ => hm pins s2 σ H2 (.ref s1.heap.objs.size) vs _ us Q I2 rfl r2 q2
end Lg
/-! Lg18 -/
set_option maxHeartbeats 4000000
namespace Lg
open PySem PySem.Spec PyProof.Rows L2
section
open PySem.SeqAt MeetsSeq MeetsSeq2 MeetsSeq3 GQ
open AutoSeq1 (wpAny_loadPart')
variable {prog : Program} {w : World} {A : Around} {R : Result → Shared → Prop} {E : Value → Shared → Prop}
theorem ne_loopG (l b : Addr) (N : Nat) (I : Nat → Shared → Prop) (hl : ListI prog w A (fun e s' => R (.error e) s') l b N I)
    (fin : ∀ s, I N s → R (.ok (.ret (.bool false))) s) (k : Nat) :
    ∀ i : Nat, N - i = k → i ≤ N → ∀ s, I i s →
      wpAny (model prog w) A.in1 (Builtin.«list.__eq__.loop» ⟨[.ref l, .ref b, rawInt i, rawInt 3], []⟩) (FinOf prog w A R) (fun e s' => R (.error e) s') s := by
  induction k with
  | zero =>
    intro i hk hi s h
    obtain ⟨items, items2, n, n2, hl1, hb1, hs1, hs2, _⟩ := hl _ _ h
    have hi' : i = N := by omega
    have hR : R (.ok (.ret (.bool false))) s := fin s (hi' ▸ h)
    obtain ⟨hp, g, d, tk, os⟩ := s
    wp_walk using wpAny_loadPart' hl1, wpAny_loadPart' hb1
    have hi1 : items[((i : Nat) : Int).toNat]? = none := by simp; omega
    have hi2 : items2[((i : Nat) : Int).toNat]? = none := by simp; omega
    rw [hi1, hi2]
    wp_walk using wpAny_loadPart' hl1, wpAny_loadPart' hb1
    show R (.ok (.ret (.bool (items.size != items2.size)))) _
    rw [hs1, hs2]
    simpa using hR
  | succ k ih =>
    intro i hk hi s h
    obtain ⟨items, items2, n, n2, hl1, hb1, hs1, hs2, turn⟩ := hl _ _ h
    have hlt : i < items.size := by omega
    have hlt2 : i < items2.size := by omega
    have ht := turn hlt hlt2
    obtain ⟨hp, g, d, tk, os⟩ := s
    wp_walk using wpAny_loadPart' hl1, wpAny_loadPart' hb1
    have hi1 : items[((i : Nat) : Int).toNat]? = some items[i] := by simp [hlt]
    have hi2 : items2[((i : Nat) : Int).toNat]? = some items2[i] := by simp [hlt2]
    have hc : ((i : Int) + 1) = ((i + 1 : Nat) : Int) := by omega
    rw [hi1, hi2]
    refine wpAny_bind (wpAny_mono ht (fun r s2 h2 => ?_) fun _ _ x => x)
    obtain ⟨hr, h2⟩ := h2
    subst hr
    have hrec := ih (i + 1) (by omega) (by omega) s2 h2
    obtain ⟨hp2, g2, d2, tk2, os2⟩ := s2
    wp_walk
    rw [hc]
    exact ⟨plainId_quiet plain_eq_loop _, codeAny_builtin entry_eq_loop (by
      rw [Around.under_plainId plain_eq_loop _]
      exact hrec)⟩
theorem list_neG (l b : Addr) (N : Nat) (I : Nat → Shared → Prop) (hl : ListI prog w A (fun e s' => R (.error e) s') l b N I)
    (fin : ∀ s, I N s → R (.ok (.ret (.bool false))) s) {s : Shared} (h : I 0 s) :
    wpAny (model prog w) A.in1 (Builtin.«list.__ne__» ⟨[.ref l, .ref b], []⟩) (FinOf prog w A R) (fun e s' => R (.error e) s') s := by
  obtain ⟨items, items2, n, n2, hl1, hb1, hs1, hs2, _⟩ := hl _ _ h
  have hrec := ne_loopG (A := A) (R := R) l b N I hl fin _ 0 rfl (Nat.zero_le _) s h
  obtain ⟨hp, g, d, tk, os⟩ := s
  have f3 := AutoSeq1.sub_list_list
  have hne : ¬ (items.size != items2.size) = true := by simp [hs1, hs2]
  wp_walk using wpAny_loadPart' hl1, wpAny_loadPart' hb1
  exact ⟨plainId_quiet plain_eq_loop _, codeAny_builtin entry_eq_loop (by
    rw [Around.under_plainId plain_eq_loop _]
    exact hrec)⟩
theorem rc_listNeG {l b : Addr} {N : Nat} {s : Shared} {Q : Value → Shared → Prop} (hu : A.units < cLine) (I : Nat → Shared → Prop) (hl : ListI prog w A E l b N I)
    (fin : ∀ s, I N s → Q (.bool false) s) (h : I 0 s) : wpAny (model prog w) A (richCompare .NotEq (.ref l) (.ref b)) Q E s := by
  obtain ⟨items, items2, n, n2, hl1, hb1, _, _, _⟩ := hl _ _ h
  refine wpAny_richCompare_same_room (op := .NotEq) ⟨_, hl1, rfl⟩ ⟨_, hb1, rfl⟩ F.slot_list_ne (call_here F.slot_list_ne ⟨_, hl1, rfl⟩ F.entry_list_ne (F.args_list_ne_2 _ _) ?_) hu
  exact list_neG (R := wants (fun v s' => v ≠ .notImplemented ∧ Q v s') E) l b N I hl (fun s' q => ⟨(fun x => nomatch x), fin s' q⟩) h
end
section
variable {X : Cx} {n : Nat} {D : Eqv}
/-- two dicts of the same pairs -/
def DDic : Eqv := fun x y H => ∃ a b ks, x = .ref a ∧ y = .ref b ∧ H a = some (.dK ks) ∧ H b = some (.dK ks) ∧ ∀ p ∈ ks, valV ks p.1 = some p.2 ∧ flatB p.2 = true
theorem mon_dic : Mon DDic := fun x y H H' e d => by
  obtain ⟨a, b, ks, hx, hy, h1, h2, h3⟩ := d
  exact ⟨a, b, ks, hx, hy, e _ _ h1, e _ _ h2, h3⟩
theorem rcG_dic : RcG X 0 DDic := by
  intro A pins s σ H x y u v sb I rx ry d
  obtain ⟨a, b, ks, rfl, rfl, ha, hb, h⟩ := d
  refine eqR_run I (A := A) (F := fun x y => x = y ∧ flatB x = true) sb.room.units0 (fun x y v u h rx ry => ?_) (.inr ⟨a, b, ks, ks, rfl, rfl, ha, hb, rfl, fun p hp => ⟨p.2, (h p hp).1, rfl, (h p hp).2⟩⟩) rx ry X.xe _ ⟨rfl, H, I, Ext.rfl'⟩
  obtain ⟨rfl, f⟩ := h
  exact (eqAt_same rx ry f).eqP
theorem eqG_dic : EqG X 0 DDic := rcG_dic.eqG fun _ _ _ d => let ⟨a, b, _, hx, hy, _⟩ := d; ⟨a, b, hx, hy⟩
/-- x != y, two equal lists -/
def rNeG (D : Eqv) : R2 := fun x y H Q => DList D x y H ∧ ∀ H', Ext H H' → Q (.bl false) H'
theorem op_neG (hD : Mon D) (h : EqG X n D) (hr : Room (n + 1) X.A) : OpR X (compareOp .NotEq) (rNeG D) := by
  intro pins s σ H x y v u Q I rx ry hq
  obtain ⟨⟨a, b, xs, ys, rfl, rfl, ha, hb, p⟩, q⟩ := hq
  cases rx
  cases ry
  show wpAny (model X.prog X.w) X.A (richCompare .NotEq (.ref a) (.ref b)) (EP X pins σ Q) X.xe s
  have sb : Sub X (n + 1) X.A := ⟨hr, rfl⟩
  refine rc_listNeG (N := xs.length) sb.room.units0 (fun _ s' => LoopI X pins σ H s') (fun i s' q => ?_) (fun s' q' => ?_) ⟨H, I, Ext.rfl'⟩
  · obtain ⟨H1, I1, e1⟩ := id q
    obtain ⟨z, its, k, r, e⟩ := I1.hok a _ (e1 _ _ ha)
    obtain ⟨z2, its2, k2, r2, e2⟩ := I1.hok b _ (e1 _ _ hb)
    refine ⟨its.toArray, its2.toArray, k, k2, e, e2, by rw [List.size_toArray, ← r.length], by rw [List.size_toArray, ← r2.length, ← p.1], fun h1 h2 => ?_⟩
    exact turnG hD h sb p r r2 i h1 h2 s' q
  · obtain ⟨H', I', e⟩ := q'
    exact ⟨.bl false, H', I', rfl, q H' e⟩
/-- rows -/
abbrev DRow (K : PySem.W.Frag) : Eqv := DTup K fun x y H => DDic x y H ∨ DFlat x y H
theorem mon_rowD {K : PySem.W.Frag} : Mon (DRow K) := mon_tup (mon_dic.or mon_flat)
theorem eqG_rowD : EqG X 1 (DRow X.K) := eqG_tup (mon_dic.or mon_flat) (eqG_dic.or eqG_flat)
theorem op_neRows (hr : Room 2 X.A) : OpR X (compareOp .NotEq) (rNeG (DRow X.K)) := op_neG mon_rowD eqG_rowD hr
theorem op_eqRows (hr : Room 2 X.A) : OpR X (compareOp .Eq) (rEqG (DList (DRow X.K))) := op_eqG (rcG_list mon_rowD eqG_rowD) hr
end
end Lg
/-! Lg19 -/
set_option maxHeartbeats 4000000
namespace Lg
open PySem PySem.Spec PyProof.Rows L2
section
variable {X : Cx}
def rEqL0 (K : PySem.W.Frag) (neg : Bool) : R2 := fun x y H Q => ∃ a b xs, x = .ref a ∧ y = .ref b ∧ SqL K H a xs ∧ SqL K H b [] ∧ Q (.bl (if neg then !xs.isEmpty else xs.isEmpty)) H
theorem op_eqL0 (hu : X.A.units + 1 < cLine) : OpR X (compareOp .Eq) (rEqL0 X.K false) := by
  intro pins s σ H x y v u Q I rx ry h
  obtain ⟨a, b, xs, rfl, rfl, ha, hb, q⟩ := h
  cases (show v = Value.ref a from rx)
  cases (show u = Value.ref b from ry)
  obtain ⟨its, rv, p1, _⟩ := I.list ha
  obtain ⟨its2, rv2, p2, _⟩ := I.list hb
  cases rv2
  show wpAny _ _ (richCompare .Eq (.ref a) (.ref b)) _ _ _
  cases xs with
  | nil =>
    cases rv
    exact SeqAt.RcAt.lists p1.isList p2.isList rfl (e := fun _ => true) (by omega) (fun j h1 _ => absurd h1 (by simp)) _ _ _ _ ⟨.bl true, H, I, rfl, q⟩
  | cons x xs =>
    cases rv
    exact SeqAt.RcAt.lists_lengths p1.isList p2.isList (by simp) (by omega) _ _ _ _ ⟨.bl false, H, I, rfl, q⟩
theorem op_neL0 (hu : X.A.units + 1 < cLine) : OpR X (compareOp .NotEq) (rEqL0 X.K true) := by
  intro pins s σ H x y v u Q I rx ry h
  obtain ⟨a, b, xs, rfl, rfl, ha, hb, q⟩ := h
  cases (show v = Value.ref a from rx)
  cases (show u = Value.ref b from ry)
  obtain ⟨its, rv, p1, _⟩ := I.list ha
  obtain ⟨its2, rv2, p2, _⟩ := I.list hb
  cases rv2
  show wpAny _ _ (richCompare .NotEq (.ref a) (.ref b)) _ _ _
  cases xs with
  | nil =>
    cases rv
    exact SeqAt.RcNeAt.lists p1.isList p2.isList rfl (e := fun _ => true) (by omega) (fun j h1 _ => absurd h1 (by simp)) _ _ _ _ ⟨.bl false, H, I, rfl, q⟩
  | cons x xs =>
    cases rv
    exact SeqAt.RcNeAt.lists_lengths p1.isList p2.isList (by simp) (by omega) _ _ _ _ ⟨.bl true, H, I, rfl, q⟩
end
end Lg
/-! Lg20 -/
set_option maxHeartbeats 1000000
namespace Lg
open PySem PySem.Spec PyProof.Rows
open Sem (wp)
abbrev IsZN (h : Heap) (z TI TO : Addr) (f0 : Value) (b : Bool) : Prop :=
  h.get? z = some { cls := .type "zip", dict := none, data := .fields #[f0, .bool b, .bool false, .ref TI, .ref TO], slots := #[] }
abbrev IsTN (h : Heap) (T : Addr) (xs : List Value) : Prop := h.get? T = some { cls := .type "tuple", data := .seq xs.toArray }
/-- the cells lie apart -/
structure ZSep (z TI TO : Nat) (its : List Nat) (fp : Nat → List Nat) : Prop where
  TIz : TI ≠ z
  TOz : TO ≠ z
  TITO : TI ≠ TO
  ti : ∀ a ∈ its, TI ≠ a
  mem : ∀ j a, its[j]? = some a → a ∈ fp j
  zf : ∀ j, j < its.length → z ∉ fp j
  Tf : ∀ j, j < its.length → TO ∉ fp j
  sep : ∀ j k a, its[j]? = some a → k < its.length → j ≠ k → a ∉ fp k
section
variable {prog : Program} {w : World} {A : Around} {E : Value → Shared → Prop} {s : Shared} {z TI TO : Addr} {its : List Addr} {fp : Nat → List Addr} {n i : Nat} {P : Nat → Nat → Value → Prop} {St : Nat → Nat → Heap → Prop}
theorem ZSep.iz (S : ZSep z TI TO its fp) {j : Nat} {a : Addr} (h : its[j]? = some a) : a ≠ z := fun e => S.zf j (List.getElem?_eq_some_iff.mp h).1 (e ▸ S.mem j a h)
theorem ZSep.iT (S : ZSep z TI TO its fp) {j : Nat} {a : Addr} (h : its[j]? = some a) : a ≠ TO := fun e => S.Tf j (List.getElem?_eq_some_iff.mp h).1 (e ▸ S.mem j a h)
/-- what was drawn so far -/
def Drawn (P : Nat → Nat → Value → Prop) (i m : Nat) (xs : List Value) : Prop := xs.length = m ∧ ∀ j x, xs[j]? = some x → P j i x
theorem Drawn.snoc {m : Nat} {xs : List Value} {x : Value} (d : Drawn P i m xs) (h : P m i x) : Drawn P i (m + 1) (xs ++ [x]) := by
  refine ⟨by rw [List.length_append, d.1]; rfl, fun j y hy => ?_⟩
  by_cases c : j < xs.length
  · rw [List.getElem?_append_left c] at hy
    exact d.2 j y hy
  · rw [List.getElem?_append_right (by omega)] at hy
    have : j - xs.length = 0 := by
      cases q : j - xs.length with
      | zero => rfl
      | succ t => rw [q] at hy; cases hy
    rw [this] at hy
    cases hy
    have : j = m := by have := d.1; omega
    rw [this]
    exact h
theorem drop_cons {α : Type} {l rest : List α} {x : α} {m : Nat} (h : x :: rest = l.drop m) : l[m]? = some x ∧ rest = l.drop (m + 1) := by
  have hlt : m < l.length := by
    rcases Nat.lt_or_ge m l.length with h' | h'
    · exact h'
    · rw [List.drop_of_length_le h'] at h; cases h
  rw [List.drop_eq_getElem_cons hlt] at h
  injection h with h1 h2
  exact ⟨by rw [List.getElem?_eq_getElem hlt, h1], h2⟩
theorem zipN_held {T : Addr} {b : Bool} {oT : Obj} {Q : Value → Shared → Prop} (S : ZSep z TI TO its fp) (D : ∀ j a, its[j]? = some a → Draws prog w A a (fp j) n (P j) (St j)) (hne : its ≠ [])
    (hz : IsZN s.heap z TI TO (rawInt T) b) (hT : s.heap.get? T = some oT) (hTI : IsTN s.heap TI (its.map Value.ref)) (st : ∀ j, j < its.length → St j i s.heap) (hlt : i < n) (hk : its.length ≤ sizeLine)
    (hQ : ∀ xs h' tk, Drawn P i its.length xs → IsZN h' z TI TO (rawInt T) true → (∀ j, j < its.length → St j (i + 1) h') → IsTN h' s.heap.objs.size xs → h'.objs.size = s.heap.objs.size + 1 →
      (∀ c o, c ≠ z → c ∉ its → s.heap.get? c = some o → h'.get? c = some o) → Q (.ref s.heap.objs.size) { s with heap := h', toks := tk }) :
    wpAny (model prog w) A (Builtin.«zip.__next__» ⟨[.ref z], []⟩) (fun fin s' => ∃ v, fin = .done (.ret v) ∧ Q v s') E s := by
  show wpAny _ _ (field (.ref z) 2 >>= _) _ _ _
  refine wpAny_bind (wpAny_field hz rfl (x := .bool false) rfl ?_)
  show wpAny _ _ (field (.ref z) 3 >>= _) _ _ _
  refine wpAny_bind (wpAny_field hz rfl (x := .ref TI) rfl ?_)
  refine wpAny_bind (wpAny_seqItems hTI rfl ?_)
  have hemp : (its.map Value.ref).toArray.isEmpty = false := by
    cases its with
    | nil => exact absurd rfl hne
    | cons a l => rfl
  simp only [hemp, Bool.false_eq_true, if_false]
  show wpAny _ _ (Builtin.SmallTypes.ownedTupleIsFree (.ref z) >>= _) _ _ _
  refine wpAny_bind (wpAny_tupleHeld_zip hz hT fun h₁ hz₁ hs₁ => ?_)
  simp only [Bool.false_eq_true, if_false]
  refine wpAny_bind ?_
  rw [← Array.forIn_toList]
  refine wpAny_forIn_list _ (fun rest bb s' => bb.1 = none ∧ ∃ m h' tk, rest = (its.map Value.ref).drop m ∧ m ≤ its.length ∧ Drawn P i m bb.2.toList ∧ s' = { s with heap := h', toks := tk } ∧ IsZN h' z TI TO (rawInt T) true ∧ (∀ j, j < m → St j (i + 1) h') ∧ (∀ j, m ≤ j → j < its.length → St j i h') ∧
    h'.objs.size = s.heap.objs.size ∧ ∀ c o, c ≠ z → c ∉ its → s.heap.get? c = some o → h'.get? c = some o) _ ?_ ?_ _ _ ⟨rfl, 0, h₁, s.toks, rfl, Nat.zero_le _, ⟨rfl, fun j x h => by cases h⟩, rfl, hz₁, fun j h => absurd h (Nat.not_lt_zero j), fun j _ hj => (D j its[j] (List.getElem?_eq_getElem hj)).over (st j hj) hs₁ (S.zf j hj), hs₁.1, fun c o c1 _ e => hs₁.extBut _ _ c1 e⟩
  · rintro x rest ⟨b1, b2⟩ s' ⟨hb1, m, h', tk, hr, hm, hd, rfl, hz', s1, s2, hsz, hkp⟩
    obtain ⟨hx, hr2⟩ := drop_cons hr
    obtain ⟨a, ha, rfl⟩ : ∃ a, its[m]? = some a ∧ x = Value.ref a := by
      rw [List.getElem?_map] at hx
      cases q : its[m]? with
      | none => rw [q] at hx; cases hx
      | some a => rw [q] at hx; exact ⟨a, rfl, (Option.some.inj hx).symm⟩
    have hml : m < its.length := (List.getElem?_eq_some_iff.mp ha).1
    have hb1' : b1 = none := hb1
    subst hb1'
    refine wpAny_bind (wpAny_holding ?_)
    show wpAny _ _ (Builtin.SmallTypes.nextOf (.ref a) >>= _) _ _ _
    refine wpAny_bind ((D m a ha).item i _ _ _ hlt (s2 m (Nat.le_refl _) hml) fun y h2 tk2 hy hst2 hs2 => wpAny_pure (wpAny_pure ?_))
    refine ⟨rfl, m + 1, h2, tk2, hr2, hml, ?_, rfl, hs2.extBut _ _ (S.iz ha).symm hz', fun j hj => ?_, fun j hj1 hj2 => ?_, hs2.1.trans hsz, fun c o c1 c2 e => hs2.extBut _ _ (fun q => c2 (q ▸ List.mem_of_getElem? ha)) (hkp c o c1 c2 e)⟩
    · show Drawn P i (m + 1) (b2.push y).toList
      rw [Array.toList_push]
      exact hd.snoc hy
    · by_cases c : j = m
      · rw [c]; exact hst2
      · have hj' : j < m := by omega
        have hjl : j < its.length := by omega
        exact (D j its[j] (List.getElem?_eq_getElem hjl)).over (s1 j hj') hs2 (S.sep m j a ha hjl (fun e => c e.symm))
    · exact (D j its[j] (List.getElem?_eq_getElem hj2)).over (s2 j (by omega) hj2) hs2 (S.sep m j a ha hj2 (by omega))
  · rintro ⟨b1, b2⟩ s' ⟨hb1, m, h', tk, hr, hm, hd, rfl, hz', s1, s2, hsz, hkp⟩
    have hb1' : b1 = none := hb1
    subst hb1'
    have hme : m = its.length := by
      have h1 : ((its.map Value.ref).drop m).length = 0 := by rw [← hr]; rfl
      rw [List.length_drop, List.length_map] at h1
      omega
    subst hme
    show wpAny _ _ (newTuple b2.toList >>= _) _ _ _
    refine wpAny_bind (wpAny_newTuple (hsz := by rw [hd.1]; exact hk) ?_)
    refine wpAny_pure ⟨_, rfl, ?_⟩
    show Q (.ref h'.objs.size) _
    have hp : IsTN (h'.push { cls := .type "tuple", data := .seq b2.toList.toArray }) h'.objs.size b2.toList := Heap.get?_push_size _ rfl
    have hz4 : (h'.push { cls := .type "tuple", data := .seq b2.toList.toArray }).objs.size = h'.objs.size + 1 := Heap.size_push ..
    rw [hsz] at hp hz4 ⊢
    exact hQ b2.toList _ tk hd (Heap.get?_push_of_some _ hz') (fun j hj => (D j its[j] (List.getElem?_eq_getElem hj)).frame _ _ _ (s1 j hj) fun b _ o e => Heap.get?_push_of_some _ e) hp hz4 fun c o c1 c2 e => Heap.get?_push_of_some _ (hkp c o c1 c2 e)
theorem zipN_held_end {T : Addr} {b : Bool} {oT : Obj} {a : Addr} {Q : Fin → Shared → Prop} (S : ZSep z TI TO its fp) (ha : its[0]? = some a) (D0 : Draws prog w A a (fp 0) n (P 0) (St 0))
    (hz : IsZN s.heap z TI TO (rawInt T) b) (hT : s.heap.get? T = some oT) (hTI : IsTN s.heap TI (its.map Value.ref)) (st : St 0 n s.heap)
    (hE : ∀ h' e, (∀ c o, c ≠ z → c ∉ its → s.heap.get? c = some o → h'.get? c = some o) → (∃ o, h'.get? e = some o ∧ o.cls = .type "StopIteration") → E (.ref e) { s with heap := h' }) :
    wpAny (model prog w) A (Builtin.«zip.__next__» ⟨[.ref z], []⟩) Q E s := by
  show wpAny _ _ (field (.ref z) 2 >>= _) _ _ _
  refine wpAny_bind (wpAny_field hz rfl (x := .bool false) rfl ?_)
  show wpAny _ _ (field (.ref z) 3 >>= _) _ _ _
  refine wpAny_bind (wpAny_field hz rfl (x := .ref TI) rfl ?_)
  refine wpAny_bind (wpAny_seqItems hTI rfl ?_)
  cases its with
  | nil => cases ha
  | cons a' l =>
    cases ha
    simp only [show ((a :: l).map Value.ref).toArray.isEmpty = false from rfl, Bool.false_eq_true, if_false]
    show wpAny _ _ (Builtin.SmallTypes.ownedTupleIsFree (.ref z) >>= _) _ _ _
    refine wpAny_bind (wpAny_tupleHeld_zip hz hT fun h₁ hz₁ hs₁ => ?_)
    simp only [Bool.false_eq_true, if_false]
    refine wpAny_bind ?_
    rw [← Array.forIn_toList]
    simp only [List.map_cons, List.forIn_cons]
    refine wpAny_bind (wpAny_bind (wpAny_holding ?_))
    show wpAny _ _ (Builtin.SmallTypes.nextOf (.ref a) >>= _) _ _ _
    refine wpAny_bind (D0.done { s with heap := h₁ } _ _ (D0.over st hs₁ (S.zf 0 (Nat.zero_lt_succ _))) fun h₂ e hs₂ he => ?_)
    exact hE h₂ e (fun c o c1 c2 x => hs₂ _ _ (fun q => c2 (q ▸ List.mem_cons_self)) (hs₁.extBut _ _ c1 x)) he
theorem zipN_fresh_end {os : List Value} {a : Addr} {Q : Fin → Shared → Prop} (S : ZSep z TI TO its fp) (ha : its[0]? = some a) (D0 : Draws prog w A a (fp 0) n (P 0) (St 0))
    (hz : IsZN s.heap z TI TO .none false) (hTI : IsTN s.heap TI (its.map Value.ref)) (st : St 0 n s.heap)
    (hE : ∀ h' e, (∀ c o, c ≠ z → c ∉ its → s.heap.get? c = some o → h'.get? c = some o) → (∃ o, h'.get? e = some o ∧ o.cls = .type "StopIteration") → E (.ref e) { s with heap := h' }) :
    wpAny (model prog w) A (Builtin.«zip.__next__» ⟨[.ref z], []⟩) Q E s := by
  show wpAny _ _ (field (.ref z) 2 >>= _) _ _ _
  refine wpAny_bind (wpAny_field hz rfl (x := .bool false) rfl ?_)
  show wpAny _ _ (field (.ref z) 3 >>= _) _ _ _
  refine wpAny_bind (wpAny_field hz rfl (x := .ref TI) rfl ?_)
  refine wpAny_bind (wpAny_seqItems hTI rfl ?_)
  cases its with
  | nil => cases ha
  | cons a' l =>
    cases ha
    simp only [show ((a :: l).map Value.ref).toArray.isEmpty = false from rfl, Bool.false_eq_true, if_false]
    show wpAny _ _ (Builtin.SmallTypes.ownedTupleIsFree (.ref z) >>= _) _ _ _
    refine wpAny_bind ?_
    unfold Builtin.SmallTypes.ownedTupleIsFree
    refine wpAny_bind (wpAny_field hz rfl (x := .none) rfl (wpAny_pure ?_))
    simp only [if_true]
    refine wpAny_bind (wpAny_rule ?_)
    refine wpAny_bind (wpAny_field hz rfl (x := .ref TO) rfl ?_)
    refine wpAny_bind (wpAny_setField_rec hz (by simp) fun g0 hz0 hs0 => ?_)
    replace hz0 : IsZN g0 z TI TO .ellipsis false := hz0
    refine wpAny_bind ?_
    simp only [List.map_cons, List.zipIdx_cons, List.forIn_cons]
    refine wpAny_bind (wpAny_bind (wpAny_onRaise ?_))
    show wpAny _ _ (Builtin.SmallTypes.nextOf (.ref a) >>= _) _ _ _
    refine wpAny_bind (D0.done { s with heap := g0 } _ _ (D0.over st hs0 (S.zf 0 (Nat.zero_lt_succ _))) fun q e hq he => ?_)
    obtain ⟨oe, hoe, hce⟩ := he
    have haz : a ≠ z := S.iz (its := a :: l) (j := 0) rfl
    have hzq : IsZN q z TI TO .ellipsis false := hq _ _ haz.symm hz0
    have hez : e ≠ z := fun x => by subst x; rw [hzq] at hoe; cases hoe; simp at hce
    refine wpAny_setField_rec (s := { s with heap := q }) hzq (by simp) fun q' _ hq' => ?_
    exact hE q' e (fun c o cz c2 x => hq'.extBut _ _ cz (hq _ _ (fun w => c2 (w ▸ List.mem_cons_self)) (hs0.extBut _ _ cz x))) ⟨oe, hq'.extBut _ _ hez hoe, hce⟩
theorem upd_tup {T : Addr} {ys : List Value} {m : Nat} {x : Value} {Q : Unit → Shared → Prop} (hT : IsTN s.heap T ys) (hz : ys.length ≤ sizeLine) (h : ∀ h', IsTN h' T (ys.set m x) → Heap.SameBut T s.heap h' → Q () { s with heap := h' }) :
    wpAny (model prog w) A (updateSeq T (·.setIfInBounds m x)) Q E s := by
  refine wpAny_updateSeq (hz := by simp; exact hz) hT rfl (h _ ?_ (Heap.SameBut.update ..))
  show (s.heap.update T _).get? T = _
  rw [Heap.get?_update_self _ hT rfl]
  simp [Obj.mapSeq]
theorem zipN_fresh {os : List Value} {Q : Value → Shared → Prop} (S : ZSep z TI TO its fp) (D : ∀ j a, its[j]? = some a → Draws prog w A a (fp j) n (P j) (St j)) (hne : its ≠ [])
    (hz : IsZN s.heap z TI TO .none false) (hTO : IsTN s.heap TO os) (hol : os.length = its.length) (hTI : IsTN s.heap TI (its.map Value.ref)) (st : ∀ j, j < its.length → St j i s.heap) (hlt : i < n) (hk : its.length ≤ sizeLine)
    (hQ : ∀ xs h' tk, Drawn P i its.length xs → IsZN h' z TI TO (rawInt s.heap.objs.size) false → (∀ j, j < its.length → St j (i + 1) h') → IsTN h' s.heap.objs.size xs → h'.objs.size = s.heap.objs.size + 1 →
      (∀ c o, c ≠ z → c ≠ TO → c ∉ its → s.heap.get? c = some o → h'.get? c = some o) → Q (.ref s.heap.objs.size) { s with heap := h', toks := tk }) :
    wpAny (model prog w) A (Builtin.«zip.__next__» ⟨[.ref z], []⟩) (fun fin s' => ∃ v, fin = .done (.ret v) ∧ Q v s') E s := by
  show wpAny _ _ (field (.ref z) 2 >>= _) _ _ _
  refine wpAny_bind (wpAny_field hz rfl (x := .bool false) rfl ?_)
  show wpAny _ _ (field (.ref z) 3 >>= _) _ _ _
  refine wpAny_bind (wpAny_field hz rfl (x := .ref TI) rfl ?_)
  refine wpAny_bind (wpAny_seqItems hTI rfl ?_)
  have hemp : (its.map Value.ref).toArray.isEmpty = false := by
    cases its with
    | nil => exact absurd rfl hne
    | cons a l => rfl
  simp only [hemp, Bool.false_eq_true, if_false]
  show wpAny _ _ (Builtin.SmallTypes.ownedTupleIsFree (.ref z) >>= _) _ _ _
  refine wpAny_bind ?_
  unfold Builtin.SmallTypes.ownedTupleIsFree
  refine wpAny_bind (wpAny_field hz rfl (x := .none) rfl (wpAny_pure ?_))
  simp only [if_true]
  refine wpAny_bind (wpAny_rule ?_)
  refine wpAny_bind (wpAny_field hz rfl (x := .ref TO) rfl ?_)
  refine wpAny_bind (wpAny_setField_rec hz (by simp) fun g0 hz0 hs0 => ?_)
  replace hz0 : IsZN g0 z TI TO .ellipsis false := hz0
  refine wpAny_bind ?_
  refine wpAny_forIn_list _ (fun rest bb s' => bb.1 = none ∧ ∃ m h' tk ys, rest = (its.map Value.ref).zipIdx.drop m ∧ m ≤ its.length ∧ Drawn P i m (ys.take m) ∧ ys.length = its.length ∧ s' = { s with heap := h', toks := tk } ∧ IsZN h' z TI TO .ellipsis false ∧ IsTN h' TO ys ∧ (∀ j, j < m → St j (i + 1) h') ∧ (∀ j, m ≤ j → j < its.length → St j i h') ∧
    h'.objs.size = s.heap.objs.size ∧ ∀ c o, c ≠ z → c ≠ TO → c ∉ its → s.heap.get? c = some o → h'.get? c = some o) _ ?_ ?_ _ _ ⟨rfl, 0, g0, s.toks, os, rfl, Nat.zero_le _, ⟨rfl, fun j x h => by simp at h⟩, hol, rfl, hz0, hs0.extBut _ _ S.TOz hTO, fun j h => absurd h (Nat.not_lt_zero j), fun j _ hj => (D j its[j] (List.getElem?_eq_getElem hj)).over (st j hj) hs0 (S.zf j hj), hs0.1, fun c o c1 _ _ e => hs0.extBut _ _ c1 e⟩
  · rintro ⟨x, kk⟩ rest ⟨b1, b2⟩ s' ⟨hb1, m, h', tk, ys, hr, hm, hd, hyl, rfl, hz', hT', s1, s2, hsz, hkp⟩
    obtain ⟨hx, hr2⟩ := drop_cons hr
    obtain ⟨a, ha, rfl, rfl⟩ : ∃ a, its[m]? = some a ∧ x = Value.ref a ∧ kk = m := by
      rw [List.getElem?_zipIdx, List.getElem?_map] at hx
      cases q : its[m]? with
      | none => rw [q] at hx; cases hx
      | some a =>
        rw [q] at hx
        have e := Option.some.inj hx
        exact ⟨a, rfl, (congrArg Prod.fst e).symm, by have := (congrArg Prod.snd e).symm; simpa using this⟩
    have hml : kk < its.length := (List.getElem?_eq_some_iff.mp ha).1
    have hb1' : b1 = none := hb1
    subst hb1'
    refine wpAny_bind (wpAny_onRaise ?_)
    show wpAny _ _ (Builtin.SmallTypes.nextOf (.ref a) >>= _) _ _ _
    refine wpAny_bind ((D kk a ha).item i _ _ _ hlt (s2 kk (Nat.le_refl _) hml) fun y h2 tk2 hy hst2 hs2 => wpAny_pure ?_)
    have hT2 : IsTN h2 TO ys := hs2.extBut _ _ (S.iT ha).symm hT'
    refine wpAny_bind (wpAny_seqItems (s := { s with heap := h2, toks := tk2 }) hT2 rfl ?_)
    refine wpAny_bind (upd_tup (s := { s with heap := h2, toks := tk2 }) hT2 (by rw [hyl]; exact hk) fun h3 hT3 hs3 => ?_)
    refine wpAny_bind (wpAny_letGo (wpAny_pure ?_))
    replace hs3 : Heap.SameBut TO h2 h3 := hs3
    refine ⟨rfl, kk + 1, h3, tk2, ys.set kk y, hr2, hml, ?_, by rw [List.length_set]; exact hyl, rfl, hs3.extBut _ _ S.TOz.symm (hs2.extBut _ _ (S.iz ha).symm hz'), hT3, fun j hj => ?_, fun j hj1 hj2 => ?_, (hs3.1.trans hs2.1).trans hsz, fun c o c1 c2 c3 e => hs3.extBut _ _ c2 (hs2.extBut _ _ (fun q => c3 (q ▸ List.mem_of_getElem? ha)) (hkp c o c1 c2 c3 e))⟩
    · have e : (ys.set kk y).take (kk + 1) = ys.take kk ++ [y] := by
        rw [List.take_set, List.take_succ, List.getElem?_eq_getElem (show kk < ys.length by omega)]
        rw [List.set_append]
        have : (List.take kk ys).length = kk := by rw [List.length_take]; omega
        simp [this]
      rw [e]
      exact hd.snoc hy
    · by_cases c : j = kk
      · rw [c]; exact (D kk a ha).over hst2 hs3 (S.Tf kk hml)
      · have hj' : j < kk := by omega
        have hjl : j < its.length := by omega
        exact (D j its[j] (List.getElem?_eq_getElem hjl)).over ((D j its[j] (List.getElem?_eq_getElem hjl)).over (s1 j hj') hs2 (S.sep kk j a ha hjl (fun e => c e.symm))) hs3 (S.Tf j hjl)
    · exact (D j its[j] (List.getElem?_eq_getElem hj2)).over ((D j its[j] (List.getElem?_eq_getElem hj2)).over (s2 j (by omega) hj2) hs2 (S.sep kk j a ha hj2 (by omega))) hs3 (S.Tf j hj2)
  · rintro ⟨b1, b2⟩ s' ⟨hb1, m, h', tk, ys, hr, hm, hd, hyl, rfl, hz', hT', s1, s2, hsz, hkp⟩
    have hb1' : b1 = none := hb1
    subst hb1'
    have hme : m = its.length := by
      have h1 : ((its.map Value.ref).zipIdx.drop m).length = 0 := by rw [← hr]; rfl
      rw [List.length_drop, List.length_zipIdx, List.length_map] at h1
      omega
    subst hme
    rw [← hyl, List.take_length] at hd
    refine wpAny_bind (wpAny_seqItems (s := { s with heap := h', toks := tk }) hT' rfl ?_)
    have hta : ys.toArray.toList = ys := rfl
    show wpAny _ _ (newTuple ys >>= _) _ _ _
    refine wpAny_bind (wpAny_newTuple (hsz := by rw [hyl]; exact hk) ?_)
    show wpAny _ _ (Builtin.SmallTypes.ownedTupleHandOut (.ref z) (.ref h'.objs.size) >>= _) _ _ { s with heap := h'.push { cls := .type "tuple", data := .seq ys.toArray }, toks := tk }
    refine wpAny_bind ?_
    unfold Builtin.SmallTypes.ownedTupleHandOut
    have hz6 : IsZN (h'.push { cls := .type "tuple", data := .seq ys.toArray }) z TI TO .ellipsis false := Heap.get?_push_of_some _ hz'
    refine wpAny_bind (wpAny_setField_rec hz6 (by simp) fun h7 hz7 hs7 => ?_)
    replace hz7 : IsZN h7 z TI TO (rawInt h'.objs.size) false := hz7
    refine wpAny_setField_rec hz7 (by simp) fun h8 hz8 hs8 => ?_
    replace hz8 : IsZN h8 z TI TO (rawInt h'.objs.size) false := hz8
    replace hs7 : Heap.SameBut z (h'.push { cls := .type "tuple", data := .seq ys.toArray }) h7 := hs7
    replace hs8 : Heap.SameBut z h7 h8 := hs8
    have hzlt : z < h'.objs.size := Heap.lt_size hz'
    have up : ∀ c o, c ≠ z → h'.get? c = some o → h8.get? c = some o := fun c o c1 e => hs8.extBut _ _ c1 (hs7.extBut _ _ c1 (Heap.get?_push_of_some _ e))
    have hT8 : IsTN h8 h'.objs.size ys := hs8.extBut _ _ (Nat.ne_of_gt hzlt) (hs7.extBut _ _ (Nat.ne_of_gt hzlt) (Heap.get?_push_size _ rfl))
    have hz88 : h8.objs.size = h'.objs.size + 1 := by rw [hs8.1, hs7.1, Heap.size_push]
    rw [hsz] at hz8 hT8 hz88
    refine wpAny_pure ⟨_, rfl, ?_⟩
    show Q (.ref h'.objs.size) { s with heap := h8, toks := tk }
    rw [hsz]
    rw [hyl] at hd
    exact hQ ys h8 tk hd hz8 (fun j hj => (D j its[j] (List.getElem?_eq_getElem hj)).frame _ _ _ (s1 j hj) fun b hb o e => up b o (fun q => S.zf j hj (q ▸ hb)) e) hT8 hz88 fun c o c1 c2 c3 e => up c o c1 (hkp c o c1 c2 c3 e)
end
end Lg
/-! Lg21 -/
set_option maxHeartbeats 1000000
namespace Lg
open PySem PySem.Spec PyProof.Rows
open Sem (wp)
/-- a zip before its i-th item; d: something else that stands -/
def ZSt (z TI TO d : Addr) (its : List Addr) (St : Nat → Nat → Heap → Prop) (i : Nat) (h : Heap) : Prop :=
  IsTN h TI (its.map Value.ref) ∧ (∀ j, j < its.length → St j i h) ∧
    ((IsZN h z TI TO .none false ∧ ∃ os, IsTN h TO os ∧ os.length = its.length) ∨ ∃ (T : Addr) (b : Bool) (oT : Obj), IsZN h z TI TO (rawInt T) b ∧ h.get? T = some oT ∧ T ≠ z ∧ T ∉ its ∧ T ≠ d)
section
variable {prog : Program} {w : World} {A : Around} {E : Value → Shared → Prop} {s : Shared} {z TI TO d : Addr} {its : List Addr} {fp : Nat → List Addr} {n i : Nat} {P : Nat → Nat → Value → Prop} {St : Nat → Nat → Heap → Prop}
theorem zst_item {Q : Option Value → Shared → Prop} (S : ZSep z TI TO its fp) (D : ∀ j a, its[j]? = some a → Draws prog w A.in1 a (fp j) n (P j) (St j)) (hne : its ≠ []) (st : ZSt z TI TO d its St i s.heap) (hd : d < s.heap.objs.size) (hlt : i < n) (hk : its.length ≤ sizeLine)
    (hQ : ∀ xs h' tk, Drawn P i its.length xs → ZSt z TI TO d its St (i + 1) h' → IsTN h' s.heap.objs.size xs → (∀ c o, c ≠ z → c ≠ TO → c ∉ its → s.heap.get? c = some o → h'.get? c = some o) → Q (some (.ref s.heap.objs.size)) { s with heap := h', toks := tk }) :
    wpAny (model prog w) A (pyNext (.ref z)) Q E s := by
  obtain ⟨hTI, hst, hz⟩ := st
  have hzl : ∃ o, s.heap.get? z = some o ∧ o.cls = .type "zip" := by
    rcases hz with ⟨hz, _⟩ | ⟨T, b, oT, hz, _⟩
    · exact ⟨_, hz, rfl⟩
    · exact ⟨_, hz, rfl⟩
  obtain ⟨oz, hoz, hcz⟩ := hzl
  have hTy : s.TypeIs (.ref z) "zip" := ⟨oz, hoz, hcz⟩
  have nT : s.heap.objs.size ≠ z ∧ s.heap.objs.size ∉ its ∧ s.heap.objs.size ≠ d := by
    refine ⟨Nat.ne_of_gt (Heap.lt_size hoz), fun hm => ?_, Nat.ne_of_gt hd⟩
    obtain ⟨j, hj, e⟩ := List.getElem_of_mem hm
    obtain ⟨o, ho⟩ := (D j its[j] (List.getElem?_eq_getElem hj)).live i _ (hst j hj)
    rw [e] at ho
    exact absurd (Heap.lt_size ho) (Nat.lt_irrefl _)
  have hTIn : TI ≠ z ∧ TI ≠ TO ∧ TI ∉ its := ⟨S.TIz, S.TITO, fun hm => S.ti _ hm rfl⟩
  unfold pyNext
  refine wpAny_bind (wpAny_attempt (wpAny_callSpecial?_slot (name := Str.ofString "__next__") hTy F.slot_zip_next
    (wpAny_call_entry F.slot_zip_next hTy F.entry_zip_next ?_ (F.args_zip_next_1 _))))
  rcases hz with ⟨hz, os, hTO, hol⟩ | ⟨T, b, oT, hz, hT, n1, n2, n3⟩
  · exact zipN_fresh (os := os) S D hne hz hTO hol hTI hst hlt hk fun xs h' tk hd' a1 a2 a3 a4 a5 => wpAny_pure (hQ xs h' tk hd' ⟨a5 _ _ hTIn.1 hTIn.2.1 hTIn.2.2 hTI, a2, .inr ⟨_, _, _, a1, a3, nT.1, nT.2.1, nT.2.2⟩⟩ a3 a5)
  · exact zipN_held S D hne hz hT hTI hst hlt hk fun xs h' tk hd' a1 a2 a3 a4 a5 => wpAny_pure (hQ xs h' tk hd' ⟨a5 _ _ hTIn.1 hTIn.2.2 hTI, a2, .inr ⟨T, true, oT, a1, a5 _ _ n1 n2 hT, n1, n2, n3⟩⟩ a3 fun c o c1 _ c3 e => a5 c o c1 c3 e)
theorem zst_end {Q : Option Value → Shared → Prop} (S : ZSep z TI TO its fp) (D : ∀ j a, its[j]? = some a → Draws prog w A.in1 a (fp j) n (P j) (St j)) (hne : its ≠ []) (st : ZSt z TI TO d its St n s.heap)
    (hQ : ∀ h', (∀ c o, c ≠ z → c ≠ TO → c ∉ its → s.heap.get? c = some o → h'.get? c = some o) → Q none { s with heap := h' }) :
    wpAny (model prog w) A (pyNext (.ref z)) Q E s := by
  obtain ⟨hTI, hst, hz⟩ := st
  have hzl : ∃ o, s.heap.get? z = some o ∧ o.cls = .type "zip" := by
    rcases hz with ⟨hz, _⟩ | ⟨T, b, oT, hz, _⟩
    · exact ⟨_, hz, rfl⟩
    · exact ⟨_, hz, rfl⟩
  obtain ⟨oz, hoz, hcz⟩ := hzl
  have hTy : s.TypeIs (.ref z) "zip" := ⟨oz, hoz, hcz⟩
  obtain ⟨a, ha⟩ : ∃ a, its[0]? = some a := by
    cases its with
    | nil => exact absurd rfl hne
    | cons a l => exact ⟨a, rfl⟩
  have hl0 : 0 < its.length := (List.getElem?_eq_some_iff.mp ha).1
  unfold pyNext
  refine wpAny_bind (wpAny_attempt (wpAny_callSpecial?_slot (name := Str.ofString "__next__") hTy F.slot_zip_next
    (wpAny_call_entry F.slot_zip_next hTy F.entry_zip_next ?_ (F.args_zip_next_1 _))))
  rcases hz with ⟨hz, os, hTO, hol⟩ | ⟨T, b, oT, hz, hT, n1, n2, n3⟩
  · refine zipN_fresh_end (os := os) S ha (D 0 a ha) hz hTI (hst 0 hl0) fun h' e hk he => ?_
    obtain ⟨o, ho, hc⟩ := he
    refine wpAny_bind (wpAny_isInstance (T := "StopIteration") (b := true) ⟨o, ho, hc⟩ isSubtype_stop ?_)
    exact wpAny_pure (hQ _ fun c o c1 _ c3 x => hk c o c1 c3 x)
  · refine zipN_held_end S ha (D 0 a ha) hz hT hTI (hst 0 hl0) fun h' e hk he => ?_
    obtain ⟨o, ho, hc⟩ := he
    refine wpAny_bind (wpAny_isInstance (T := "StopIteration") (b := true) ⟨o, ho, hc⟩ isSubtype_stop ?_)
    exact wpAny_pure (hQ _ fun c o c1 _ c3 x => hk c o c1 c3 x)
end
def two {α : Type} (a b : α) : Nat → α
  | 0 => a
  | _ => b
abbrev StL (it l : Addr) (xs : Array Value) : Nat → Heap → Prop := fun i h => h.IsListIter it l i ∧ h.IsList l xs
abbrev StT (it l : Addr) (xs : Array Value) : Nat → Heap → Prop := fun i h => h.IsTupleIter it l i ∧ h.IsTuple l xs
abbrev ItP (xs : Array Value) : Nat → Value → Prop := fun i v => xs[i]? = some v
section
variable {prog : Program} {w : World} {N l1 l2 : Nat} {xs ys : Array Value} {n : Nat}
theorem two_get {N a : Nat} {j : Nat} (h : ([N, N + 1] : List Nat)[j]? = some a) : (j = 0 ∧ a = N) ∨ (j = 1 ∧ a = N + 1) := by
  match j, h with
  | 0, h => cases h; exact .inl ⟨rfl, rfl⟩
  | 1, h => cases h; exact .inr ⟨rfl, rfl⟩
theorem sep_two (h1 : l1 < N) (h2 : l2 < N) : ZSep (N + 4) (N + 2) (N + 3) [N, N + 1] (two ([N, l1] : List Nat) [N + 1, l2]) where
  TIz := by omega
  TOz := by omega
  TITO := by omega
  ti := fun a h => by simp at h; omega
  mem := fun j a h => by
    rcases two_get h with ⟨rfl, rfl⟩ | ⟨rfl, rfl⟩
    · exact List.mem_cons_self
    · exact List.mem_cons_self
  zf := fun j hj => by
    match j, hj with
    | 0, _ => simp [two]; omega
    | 1, _ => simp [two]; omega
  Tf := fun j hj => by
    match j, hj with
    | 0, _ => simp [two]; omega
    | 1, _ => simp [two]; omega
  sep := fun j k a h hk hne => by
    rcases two_get h with ⟨rfl, rfl⟩ | ⟨rfl, rfl⟩
    · match k, hk with
      | 0, _ => exact absurd rfl hne
      | 1, _ => simp [two]; omega
    · match k, hk with
      | 0, _ => simp [two]; omega
      | 1, _ => exact absurd rfl hne
theorem draws_two {A : Around} (hh : A.handled = none) (h1 : l1 < N) (h2 : l2 < N) (hx : xs.size = n) (hy : ys.size = n) : ∀ j a, ([N, N + 1] : List Nat)[j]? = some a → Draws prog w A a (two [N, l1] [N + 1, l2] j) n (two (ItP xs) (ItP ys) j) (two (StL N l1 xs) (StT (N + 1) l2 ys) j) := by
  intro j a h
  rcases two_get h with ⟨rfl, rfl⟩ | ⟨rfl, rfl⟩
  · have := Draws.list (prog := prog) (w := w) hh a l1 (Nat.ne_of_lt h1) xs
    rw [hx] at this
    exact this
  · have := Draws.tuple (prog := prog) (w := w) hh (N + 1) l2 (Nat.ne_of_lt (Nat.lt_succ_of_lt h2)) ys
    rw [hy] at this
    exact this
theorem wr_its {N b : Nat} (h : b ∈ [N, N + 1]) : b ∈ [N + 4, N + 3, N, N + 1] := List.mem_cons_of_mem _ (List.mem_cons_of_mem _ h)
theorem pair_zipLT (h1 : l1 < N) (h2 : l2 < N) (hx : xs.size = n) (hy : ys.size = n) :
    PairArg prog w "zip" (N + 4) ([N + 4, N + 2, N + 3, N, N + 1, l1, l2] : List Nat) ([N + 4, N + 3, N, N + 1] : List Nat) n (fun i k v => xs[i]? = some k ∧ ys[i]? = some v)
      (fun h => IsZN h (N + 4) (N + 2) (N + 3) .none false ∧ IsTN h (N + 2) [.ref N, .ref (N + 1)] ∧ IsTN h (N + 3) [.none, .none] ∧ StL N l1 xs 0 h ∧ StT (N + 1) l2 ys 0 h) where
  type := fun s ok => ⟨_, ok.1, rfl⟩
  notDict := by decide
  keep := fun h h' ok hk => by
    obtain ⟨hz, hTI, hTO, ⟨a1, a2⟩, b1, b2⟩ := ok
    exact ⟨hk _ _ hz, hk _ _ hTI, hk _ _ hTO, ⟨a1.at fun o e => hk _ o e, a2.at fun o e => hk _ o e⟩, b1.at fun o e => hk _ o e, b2.at fun o e => hk _ o e⟩
  there := fun h ok b hb => by
    obtain ⟨hz, hTI, hTO, ⟨⟨o1, a1, _⟩, ⟨o2, a2, _⟩⟩, ⟨o3, b1, _⟩, ⟨o4, b2, _⟩⟩ := ok
    simp only [List.mem_cons, List.not_mem_nil, or_false] at hb
    rcases hb with rfl | rfl | rfl | rfl | rfl | rfl | rfl
    all_goals first | exact ⟨_, hz⟩ | exact ⟨_, hTI⟩ | exact ⟨_, hTO⟩ | exact ⟨_, a1⟩ | exact ⟨_, b1⟩ | exact ⟨_, a2⟩ | exact ⟨_, b2⟩
  sub := fun b hb => by simp at hb ⊢; rcases hb with rfl | rfl | rfl | rfl <;> simp
  noKeys := fun A s Q E hA ok h => getAttrOr_miss_zip ok.1 rfl rfl rfl zip_no_keys (by decide +kernel) hA h
  iter := fun A s d Q E hA ok hd hdf h => by
    obtain ⟨hz, hTI, hTO, sa, sb⟩ := ok
    have hlt : N + 4 < s.heap.objs.size := Heap.lt_size hz
    refine wpAny_pyIter_zip hz (h (N + 4) ([N + 4, N + 3, N, N + 1] : List Nat) (fun i h => ZSt (N + 4) (N + 2) (N + 3) d [N, N + 1] (two (StL N l1 xs) (StT (N + 1) l2 ys)) i h) s.heap s.toks ?_ ?_ (fun _ _ e => e) fun b hb => .inl hb)
    · exact {
        off := fun hm => hdf (by simp only [List.mem_cons, List.not_mem_nil, or_false] at hm ⊢; rcases hm with rfl | rfl | rfl | rfl <;> simp)
        frame := fun i h₁ h₂ st hk => by
          have hk' : ∀ b, b ∈ [N + 4, N + 2, N + 3, N, N + 1, l1, l2] → ∀ o, h₁.get? b = some o → h₂.get? b = some o := fun b hb o e => hk b o (fun q => hdf (q ▸ hb)) e
          obtain ⟨a1, a2, a3⟩ := st
          refine ⟨hk' _ (by simp) _ a1, fun j hj => ?_, ?_⟩
          · match j, hj with
            | 0, _ => exact (draws_two (prog := prog) (w := w) hA h1 h2 hx hy 0 N rfl).frame _ _ _ (a2 0 (show 0 < 2 by decide)) fun b hb o e => hk' b (by have hb' : b ∈ [N, l1] := hb; simp at hb' ⊢; rcases hb' with rfl | rfl <;> simp) o e
            | 1, _ => exact (draws_two (prog := prog) (w := w) hA h1 h2 hx hy 1 (N + 1) rfl).frame _ _ _ (a2 1 (show 1 < 2 by decide)) fun b hb o e => hk' b (by have hb' : b ∈ [N + 1, l2] := hb; simp at hb' ⊢; rcases hb' with rfl | rfl <;> simp) o e
          · rcases a3 with ⟨b1, os, b2, b3⟩ | ⟨T, b, oT, b1, b2, b3, b4, b5⟩
            · exact .inl ⟨hk' _ (by simp) _ b1, os, hk' _ (by simp) _ b2, b3⟩
            · exact .inr ⟨T, b, oT, hk' _ (by simp) _ b1, hk _ _ b5 b2, b3, b4, b5⟩
        item := fun i s₁ Q₁ E₁ hi st hds hQ => by
          refine zst_item (sep_two h1 h2) (draws_two hA h1 h2 hx hy) (by simp) st hds hi (line_le (show 2 ≤ 1000000 by decide)) fun zs h' tk hdr st' hT hk => ?_
          obtain ⟨hl, hp⟩ := hdr
          match zs, hl with
          | [k, v], _ =>
            have p0 := hp 0 k rfl
            have p1 := hp 1 v rfl
            exact hQ _ k v h' tk ⟨p0, p1⟩ (.inl ⟨_, hT, rfl, _, rfl⟩) st' fun b o hb e => hk b o (fun q => hb (by simp [q])) (fun q => hb (by simp [q])) (fun q => hb (wr_its q)) e
        done := fun s₁ Q₁ E₁ st hQ => by
          refine zst_end (sep_two h1 h2) (draws_two hA h1 h2 hx hy) (by simp) st fun h' hk => ?_
          exact hQ h' s₁.toks fun b o hb e => hk b o (fun q => hb (by simp [q])) (fun q => hb (by simp [q])) (fun q => hb (wr_its q)) e }
    · refine ⟨hTI, fun j hj => ?_, .inl ⟨hz, _, hTO, rfl⟩⟩
      match j, hj with
      | 0, _ => exact sa
      | 1, _ => exact sb
end
section
open L2
variable {X : Cx} {e1 e2 : Expr} {t : TA} {p p2 pos pos2 : Pos}
/-- dict(zip(xs, ys)) -/
def tDictZip (K : PySem.W.Frag) (t : TA) : TE := fun σ H Q => t σ H fun vs H1 => ∃ (a b : Addr) (xs ys : List Str), vs = [.ref a, .ref b] ∧ SqL K H1 a (xs.map V.str) ∧ SqT K H1 b (ys.map V.str) ∧ xs.length = ys.length ∧ xs.length ≤ 1000 ∧
  ∀ q, H1 q = none → Q (.ref q) (upd H1 q (.dK (mergeK [] ((xs.zip ys).map fun z => (Sum.inr z.1, V.str z.2)))))
theorem rel_zip : ∀ {xs ys : List Str} {us ws : List Value}, Vals (xs.map V.str) us → Vals (ys.map V.str) ws → ∃ kvs : List (Key × Value), KV ((xs.zip ys).map fun z => (Sum.inr z.1, V.str z.2)) kvs ∧ kvs.length = min xs.length ys.length ∧
    ∀ (i : Nat) (k v : Value), us[i]? = some k → ws[i]? = some v → ∃ x t, kvs[i]? = some (Sum.inr x, v) ∧ k = Value.str x t
  | [], _, us, ws, r1, _ => by
    cases r1
    exact ⟨[], .nil, by simp, fun i k v h _ => by simp at h⟩
  | x :: xs, [], us, ws, r1, r2 => by
    cases r2
    exact ⟨[], .nil, by simp, fun i k v _ h => by simp at h⟩
  | x :: xs, y :: ys, us, ws, r1, r2 => by
    cases r1 with
    | cons a1 b1 =>
      cases r2 with
      | @cons _ v2 _ ws2 a2 b2 =>
        obtain ⟨kvs, h1, h2, h3⟩ := rel_zip b1 b2
        obtain ⟨t1, rfl⟩ := a1
        refine ⟨(Sum.inr x, v2) :: kvs, .cons ⟨rfl, a2⟩ h1, by simp [h2], fun i k v hk hv => ?_⟩
        cases i with
        | zero =>
          cases hk
          cases hv
          exact ⟨x, t1, rfl, rfl⟩
        | succ i => exact h3 i k v hk hv
theorem pe_dictZip (hc : X.calm = true) (hg : Gl X "dict") (hm : X.mg "dict" = none) (hg2 : Gl X "zip") (hm2 : X.mg "zip" = none) (ha : PA X [e1, e2] t)
    (hs : starEach [e1, e2] X.env = (false, eval e1 X.env) :: starEach [e2] X.env := by rfl) (hpl : (backTo pos2 (starEach [e2] X.env)).any (·.1) = false := by rfl)
    (na : starEach [.Call (.Name "zip" p2) [e1, e2] [] pos2] X.env = (false, eval (.Call (.Name "zip" p2) [e1, e2] [] pos2) X.env) :: starEach [] X.env := by rfl) :
    PE X (.Call (.Name "dict" p) [.Call (.Name "zip" p2) [e1, e2] [] pos2] [] pos) (tDictZip X.K t) := by
  refine ⟨fun pins s σ H Q I h => ?_⟩
  refine Call_ (ld_blt I hg hm PyProof.Rows.boot_dict ?_)
  refine PyProof.Rows.callWith_type1 (PyProof.Rows.args_cons ?_ rfl) na rfl
  refine Call_ (ld_blt I hg2 hm2 PyProof.Rows.boot_zip (PyProof.Rows.callWith_type1 (thn (ha.run pos2 pins s σ H _ I h) fun us s1 ⟨vs, H1, I1, r1, q1⟩ => ?_) hs hpl))
  obtain ⟨a, b, xs, ys, rfl, hx, hy, hl, hz, q⟩ := q1
  cases r1 with
  | cons r rr =>
    cases rr with
    | cons r' rr =>
      cases rr
      cases r
      cases r'
      obtain ⟨its, rv, pl, _⟩ := I1.list hx
      obtain ⟨its2, rv2, pl2, _⟩ := I1.tuple hy
      have hsx : its.toArray.size = xs.length := by rw [List.size_toArray, ← rv.length, List.length_map]
      have hsy : its2.toArray.size = xs.length := by rw [List.size_toArray, ← rv2.length, List.length_map, hl]
      have hla : a < s1.heap.objs.size := by obtain ⟨o, _, e, _⟩ := pl; exact Heap.lt_size e
      have hlb : b < s1.heap.objs.size := by obtain ⟨o, e, _⟩ := pl2; exact Heap.lt_size e
      obtain ⟨kvs, hkv, hkl, hget⟩ := rel_zip rv rv2
      refine zip_begins2 (begins_list a its.toArray) (begins_tuple b its2.toArray) pl.isList pl2 fun h' a1 a2 a3 a4 a5 a6 a7 => ?_
      refine PyProof.Rows.args_nil ?_
      refine PySem.call_dict_pairs (knd := mixKind X.prog X.w) (kvs := kvs) (pair_zipLT hla hlb hsx hsy) (I1.ok.hd hc) ⟨a1, a2, a3, ⟨⟨_, a4, rfl, rfl⟩, pl.isList.at fun o e => a7 _ o e⟩, ⟨_, a5, rfl, rfl⟩, Heap.IsTuple.at pl2 fun o e => a7 _ o e⟩ ⟨by rw [hkl]; omega, fun i key v hr => ?_⟩ (line_le (by omega)) fun h2 tk hd' hk => ?_
      · obtain ⟨x, t, e, rfl⟩ := hget i key v (by simpa using hr.1) (by simpa using hr.2)
        exact ⟨Sum.inr x, e, kV_is (k := Sum.inr x) ⟨t, rfl⟩⟩
      · have hle : s1.heap.objs.size ≤ h'.objs.size := by rw [a6]; omega
        have keep : ∀ b u, s1.heap.get? b = some u → h2.get? b = some u := fun c u e => hk c u (fun hm => by
          have hc : (c : Nat) < s1.heap.objs.size := Heap.lt_size e
          simp only [List.mem_cons, List.not_mem_nil, or_false] at hm
          rcases hm with rfl | rfl | rfl | rfl
          · exact absurd hc (Nat.not_lt.mpr (Nat.le_add_right _ _))
          · exact absurd hc (Nat.not_lt.mpr (Nat.le_add_right _ _))
          · exact absurd hc (Nat.lt_irrefl _)
          · exact absurd hc (Nat.not_lt.mpr (Nat.le_add_right _ _))) (a7 c u e)
        have hm : (h'.objs.size == sysModules) = false := beq_eq_false_iff_ne.mpr (Nat.ne_of_gt (Nat.lt_of_lt_of_le I1.big hle))
        have hlen : (mergeK [] ((xs.zip ys).map fun z => ((Sum.inr z.1 : Key), V.str z.2))).length ≤ sizeLine := by
          refine Nat.le_trans (length_mergeK _ []) ?_
          rw [List.length_nil, Nat.zero_add, hkv.length, hkl]
          exact line_le (by omega)
        exact ⟨.ref h'.objs.size, upd H1 h'.objs.size (.dK (mergeK [] ((xs.zip ys).map fun z => (Sum.inr z.1, V.str z.2)))), I1.laid (t' := tk) keep hle (show ObjOk X.prog X.w _ _ _ (.dK _) from ⟨hlen, hm, merged [] kvs, KV.merge hkv .nil, hd'⟩), rfl, q _ (I1.hok.fresh hle)⟩
theorem pe_dictZipB (K : PySem.W.Frag) (hc : X.calm = true) (hg : Gl X "dict") (hm : X.mg "dict" = none) (hg2 : Gl X "zip") (hm2 : X.mg "zip" = none) (ha : PA X [e1, e2] t) (hK : X.K = K := by rfl)
    (hs : starEach [e1, e2] X.env = (false, eval e1 X.env) :: starEach [e2] X.env := by rfl) (hpl : (backTo pos2 (starEach [e2] X.env)).any (·.1) = false := by rfl)
    (na : starEach [.Call (.Name "zip" p2) [e1, e2] [] pos2] X.env = (false, eval (.Call (.Name "zip" p2) [e1, e2] [] pos2) X.env) :: starEach [] X.env := by rfl) :
    PE X (.Call (.Name "dict" p) [.Call (.Name "zip" p2) [e1, e2] [] pos2] [] pos) (tDictZip K t) := by
  subst hK
  exact pe_dictZip hc hg hm hg2 hm2 ha hs hpl na
end
end Lg
/-! LgP -/
set_option maxHeartbeats 4000000
namespace Lg
open PySem L2
abbrev Row := List Str
def part (rows : List Row) (col : List Str) (side : Str) : List Row := ((rows.zip col).filter fun p => p.2 == side).map (·.1)
def colAt (rows : List Row) (j : Nat) : List Str := rows.map fun r => r.getD j "in"
def colsOf (n : Nat) (rows : List Row) : List (List Str) := (List.range n).map (colAt rows)
def stepC (f : List Row → Nat) (rows : List Row) (best : Nat) (col : List Str) : Nat :=
  if part rows col "in" = [] ∨ part rows col "out" = [] then best else min best (1 + max (f (part rows col "in")) (f (part rows col "out")))
def few (n : Nat) : Nat → List Row → Nat
  | 0, _ => 0
  | k + 1, rows => if rows.length < 2 then 0 else (colsOf n rows).foldl (stepC (few n k) rows) rows.length
def fewest (n : Nat) (rows : List Row) : Nat := few n rows.length rows
theorem part_map {α : Type} (g : Row → Str) (side : Str) : ∀ rows : List Row, part rows (rows.map g) side = rows.filter fun r => g r == side
  | [] => rfl
  | r :: rs => by
    have ih := part_map (α := α) g side rs
    unfold part at ih ⊢
    rw [List.map_cons, List.zip_cons_cons, List.filter_cons, List.filter_cons]
    by_cases c : (g r == side) = true
    · rw [if_pos c, if_pos c, List.map_cons, ih]
    · rw [if_neg c, if_neg c, ih]
theorem part_col (rows : List Row) (j : Nat) (side : Str) : part rows (colAt rows j) side = rows.filter fun r => r.getD j "in" == side := part_map (α := Nat) _ _ _
theorem mem_cols {n : Nat} {rows : List Row} {c : List Str} : c ∈ colsOf n rows ↔ ∃ j, j < n ∧ c = colAt rows j := by
  unfold colsOf
  rw [List.mem_map]
  constructor
  · rintro ⟨j, h, rfl⟩; exact ⟨j, List.mem_range.mp h, rfl⟩
  · rintro ⟨j, h, rfl⟩; exact ⟨j, List.mem_range.mpr h, rfl⟩
/-- splitting columns -/
def spl (rows : List Row) (col : List Str) : Prop := ¬ (part rows col "in" = [] ∨ part rows col "out" = [])
def valC (f : List Row → Nat) (rows : List Row) (col : List Str) : Nat := 1 + max (f (part rows col "in")) (f (part rows col "out"))
theorem step_le (f : List Row → Nat) (rows : List Row) : ∀ (L : List (List Str)) (b : Nat), L.foldl (stepC f rows) b ≤ b
  | [], b => Nat.le_refl _
  | c :: L, b => by
    refine Nat.le_trans (step_le f rows L _) ?_
    unfold stepC
    split
    · exact Nat.le_refl _
    · exact Nat.min_le_left _ _
theorem step_le2 (f : List Row → Nat) (rows : List Row) : ∀ (L : List (List Str)) (b : Nat) (c : List Str), c ∈ L → spl rows c → L.foldl (stepC f rows) b ≤ valC f rows c
  | c' :: L, b, c, h, s => by
    rcases List.mem_cons.mp h with rfl | h
    · refine Nat.le_trans (step_le f rows L _) ?_
      unfold stepC
      rw [if_neg s]
      exact Nat.min_le_right _ _
    · exact step_le2 f rows L _ c h s
theorem step_at (f : List Row → Nat) (rows : List Row) : ∀ (L : List (List Str)) (b : Nat), L.foldl (stepC f rows) b = b ∨ ∃ c ∈ L, spl rows c ∧ L.foldl (stepC f rows) b = valC f rows c
  | [], b => .inl rfl
  | c :: L, b => by
    rcases step_at f rows L (stepC f rows b c) with e | ⟨c', h1, h2, h3⟩
    · by_cases s : part rows c "in" = [] ∨ part rows c "out" = []
      · refine .inl ?_
        show L.foldl _ _ = _
        rw [e]
        unfold stepC
        rw [if_pos s]
      · have e2 : stepC f rows b c = min b (valC f rows c) := by unfold stepC valC; rw [if_neg s]
        by_cases q : b ≤ valC f rows c
        · refine .inl ?_
          show L.foldl _ _ = _
          rw [e, e2]
          exact Nat.min_eq_left q
        · refine .inr ⟨c, List.mem_cons_self, s, ?_⟩
          show L.foldl _ _ = _
          rw [e, e2]
          exact Nat.min_eq_right (by omega)
    · exact .inr ⟨c', List.mem_cons_of_mem _ h1, h2, h3⟩
/-- by what is in it, not by its order -/
theorem fold_same (f : List Row → Nat) (rows : List Row) (L L' : List (List Str)) (b : Nat) (h : ∀ c, c ∈ L ↔ c ∈ L') : L.foldl (stepC f rows) b = L'.foldl (stepC f rows) b := by
  have key : ∀ (L L' : List (List Str)), (∀ c, c ∈ L ↔ c ∈ L') → L.foldl (stepC f rows) b ≤ L'.foldl (stepC f rows) b := by
    intro L L' h
    rcases step_at f rows L' b with e | ⟨c, h1, h2, h3⟩
    · rw [e]; exact step_le f rows L b
    · rw [h3]; exact step_le2 f rows L b c ((h c).mpr h1) h2
  exact Nat.le_antisymm (key _ _ h) (key _ _ fun c => (h c).symm)
theorem fold_congr (f g : List Row → Nat) (rows : List Row) : ∀ (L : List (List Str)) (b : Nat), (∀ c ∈ L, spl rows c → valC f rows c = valC g rows c) → L.foldl (stepC f rows) b = L.foldl (stepC g rows) b
  | [], _, _ => rfl
  | c :: L, b, h => by
    have e : stepC f rows b c = stepC g rows b c := by
      unfold stepC
      by_cases s : part rows c "in" = [] ∨ part rows c "out" = []
      · rw [if_pos s, if_pos s]
      · rw [if_neg s, if_neg s]
        exact congrArg (min b) (h c List.mem_cons_self s)
    show L.foldl _ _ = L.foldl _ _
    rw [e]
    exact fold_congr f g rows L _ fun c' h' => h c' (List.mem_cons_of_mem _ h')
theorem part_len (rows : List Row) (j : Nat) : (part rows (colAt rows j) "in").length + (part rows (colAt rows j) "out").length ≤ rows.length := by
  rw [part_col, part_col]
  induction rows with
  | nil => simp
  | cons r rs ih =>
    rw [List.filter_cons, List.filter_cons]
    by_cases c : (r.getD j "in" == ("in" : Str)) = true
    · have c2 : ¬ (r.getD j "in" == ("out" : Str)) = true := by
        intro z
        rw [beq_iff_eq] at c z
        rw [c] at z
        exact absurd z (by decide)
      rw [if_pos c, if_neg c2]
      simp only [List.length_cons]
      omega
    · rw [if_neg c]
      split
      · simp only [List.length_cons]; omega
      · simp only [List.length_cons]; omega
theorem part_lt {rows : List Row} {j : Nat} (s : spl rows (colAt rows j)) : (part rows (colAt rows j) "in").length < rows.length ∧ (part rows (colAt rows j) "out").length < rows.length := by
  have h := part_len rows j
  unfold spl at s
  rw [not_or] at s
  have h1 := List.length_pos_iff.mpr s.1
  have h2 := List.length_pos_iff.mpr s.2
  omega
theorem few_stable (n : Nat) : ∀ (m : Nat) (rows : List Row) (k k' : Nat), rows.length ≤ m → rows.length ≤ k → rows.length ≤ k' → few n k rows = few n k' rows := by
  intro m
  induction m with
  | zero =>
    intro rows k k' h _ _
    have h0 : rows.length < 2 := by omega
    cases k <;> cases k' <;> simp [few, h0]
  | succ m ih =>
    intro rows k k' h hk hk'
    by_cases c : rows.length < 2
    · cases k <;> cases k' <;> simp [few, c]
    · obtain ⟨k, rfl⟩ : ∃ q, k = q + 1 := ⟨k - 1, by omega⟩
      obtain ⟨k', rfl⟩ : ∃ q, k' = q + 1 := ⟨k' - 1, by omega⟩
      unfold few
      rw [if_neg c, if_neg c]
      refine fold_congr _ _ _ _ _ fun col hc s => ?_
      obtain ⟨j, _, rfl⟩ := mem_cols.mp hc
      have hp := part_lt s
      unfold valC
      rw [ih _ k k' (by omega) (by omega) (by omega), ih _ k k' (by omega) (by omega) (by omega)]
theorem fewest_lt {n : Nat} {rows : List Row} (h : rows.length < 2) : fewest n rows = 0 := by
  unfold fewest
  cases rows with
  | nil => rfl
  | cons r rs => show few n (rs.length + 1) _ = 0; unfold few; rw [if_pos h]
theorem fewest_eq {n : Nat} {rows : List Row} (h : ¬ rows.length < 2) (L : List (List Str)) (hL : ∀ c, c ∈ L ↔ c ∈ colsOf n rows) : fewest n rows = L.foldl (stepC (fewest n) rows) rows.length := by
  rw [fold_same _ _ L _ _ hL]
  obtain ⟨k, hk⟩ : ∃ q, rows.length = q + 1 := ⟨rows.length - 1, by omega⟩
  have e : fewest n rows = few n (k + 1) rows := by unfold fewest; rw [hk]
  rw [e]
  unfold few
  rw [if_neg h]
  refine fold_congr _ _ _ _ _ fun col hc s => ?_
  obtain ⟨j, _, rfl⟩ := mem_cols.mp hc
  have hp := part_lt s
  unfold valC fewest
  rw [few_stable n _ _ k _ (Nat.le_refl _) (by omega) (Nat.le_refl _), few_stable n _ (part rows (colAt rows j) "out") k _ (Nat.le_refl _) (by omega) (Nat.le_refl _)]
/-- words -/
def okRows (n : Nat) (rows : List Row) : Prop := ∀ r ∈ rows, ∀ j, j < n → r.getD j "in" = "in" ∨ r.getD j "in" = "out"
theorem part_len_eq {n : Nat} {rows : List Row} (ok : okRows n rows) {j : Nat} (hj : j < n) : (part rows (colAt rows j) "in").length + (part rows (colAt rows j) "out").length = rows.length := by
  rw [part_col, part_col]
  induction rows with
  | nil => rfl
  | cons r rs ih =>
    have ih' := ih fun r' h' => ok r' (List.mem_cons_of_mem _ h')
    rw [List.filter_cons, List.filter_cons]
    rcases ok r List.mem_cons_self j hj with e | e
    · rw [e, if_pos (by decide), if_neg (by decide)]
      simp only [List.length_cons]
      omega
    · rw [e, if_neg (by decide), if_pos (by decide)]
      simp only [List.length_cons]
      omega
theorem ok_part {n : Nat} {rows : List Row} (ok : okRows n rows) (j : Nat) (side : Str) : okRows n (part rows (colAt rows j) side) := by
  rw [part_col]
  exact fun r h => ok r (List.mem_filter.mp h).1
theorem le_two : ∀ n : Nat, n ≤ 2 ^ n
  | 0 => by decide
  | n + 1 => by
    have := le_two n
    have h2 : 1 ≤ 2 ^ n := Nat.one_le_two_pow
    rw [Nat.pow_succ]
    omega
theorem fewest_low {n : Nat} : ∀ (m : Nat) (rows : List Row), rows.length ≤ m → okRows n rows → rows.length ≤ 2 ^ fewest n rows := by
  intro m
  induction m with
  | zero => intro rows h _; exact Nat.le_trans h (Nat.zero_le _)
  | succ m ih =>
    intro rows h ok
    by_cases c : rows.length < 2
    · exact Nat.le_trans (by omega) Nat.one_le_two_pow
    · rw [fewest_eq c _ fun _ => Iff.rfl]
      rcases step_at (fewest n) rows (colsOf n rows) rows.length with e | ⟨col, h1, s, e⟩
      · rw [e]; exact le_two _
      · rw [e]
        obtain ⟨j, hj, rfl⟩ := mem_cols.mp h1
        have hp := part_lt s
        have q1 := ih _ (by omega) (ok_part ok j "in")
        have q2 := ih _ (by omega) (ok_part ok j "out")
        have hl := part_len_eq ok hj
        unfold valC
        rw [Nat.add_comm 1, Nat.pow_succ]
        have l1 := Nat.pow_le_pow_right (n := 2) (by decide) (Nat.le_max_left (fewest n (part rows (colAt rows j) "in")) (fewest n (part rows (colAt rows j) "out")))
        have l2 := Nat.pow_le_pow_right (n := 2) (by decide) (Nat.le_max_right (fewest n (part rows (colAt rows j) "in")) (fewest n (part rows (colAt rows j) "out")))
        omega
theorem fewest_up {n : Nat} : ∀ (js : List Nat) (rows : List Row), (∀ j ∈ js, j < n) → rows.Nodup → (∀ r ∈ rows, ∀ r' ∈ rows, (∀ j ∈ js, r.getD j "in" = r'.getD j "in") → r = r') → okRows n rows → fewest n rows ≤ js.length
  | [], rows, _, nd, inj, _ => by
    have : rows.length < 2 := by
      match rows, nd, inj with
      | [], _, _ => simp
      | [_], _, _ => simp
      | a :: b :: l, nd, inj =>
        have e := inj a (by simp) b (by simp) (fun _ h => nomatch h)
        rw [e] at nd
        simp at nd
    rw [fewest_lt this]
    exact Nat.zero_le _
  | j :: js, rows, hj, nd, inj, ok => by
    by_cases c : rows.length < 2
    · rw [fewest_lt c]; exact Nat.zero_le _
    · by_cases s : spl rows (colAt rows j)
      · rw [fewest_eq c _ fun _ => Iff.rfl]
        refine Nat.le_trans (step_le2 _ _ _ _ _ (mem_cols.mpr ⟨j, hj j List.mem_cons_self, rfl⟩) s) ?_
        have go : ∀ side : Str, fewest n (part rows (colAt rows j) side) ≤ js.length := by
          intro side
          refine fewest_up js _ (fun j' h' => hj j' (List.mem_cons_of_mem _ h')) ?_ ?_ (ok_part ok j side)
          · rw [part_col]; exact nd.filter _
          · rw [part_col]
            intro r hr r' hr' h
            obtain ⟨m1, e1⟩ := List.mem_filter.mp hr
            obtain ⟨m2, e2⟩ := List.mem_filter.mp hr'
            rw [beq_iff_eq] at e1 e2
            refine inj r m1 r' m2 fun j' h' => ?_
            rcases List.mem_cons.mp h' with rfl | h'
            · rw [e1, e2]
            · exact h j' h'
        have g1 := go "in"
        have g2 := go "out"
        unfold valC
        show _ ≤ js.length + 1
        omega
      · refine Nat.le_trans (fewest_up js rows (fun j' h' => hj j' (List.mem_cons_of_mem _ h')) nd ?_ ok) (Nat.le_succ _)
        intro r hr r' hr' h
        refine inj r hr r' hr' fun j' h' => ?_
        rcases List.mem_cons.mp h' with rfl | h'
        · unfold spl at s
          have s' := Classical.not_not.mp s
          rw [part_col, part_col] at s'
          rcases s' with z | z
          · have f1 := fun x hx => (List.filter_eq_nil_iff.mp z) x hx
            have a1 := f1 r hr
            have a2 := f1 r' hr'
            rw [beq_iff_eq] at a1 a2
            rcases ok r hr j' (hj j' List.mem_cons_self) with e | e
            · exact absurd e a1
            · rcases ok r' hr' j' (hj j' List.mem_cons_self) with e' | e'
              · exact absurd e' a2
              · rw [e, e']
          · have f1 := fun x hx => (List.filter_eq_nil_iff.mp z) x hx
            have a1 := f1 r hr
            have a2 := f1 r' hr'
            rw [beq_iff_eq] at a1 a2
            rcases ok r hr j' (hj j' List.mem_cons_self) with e | e
            · rcases ok r' hr' j' (hj j' List.mem_cons_self) with e' | e'
              · rw [e, e']
              · exact absurd e' a2
            · exact absurd e a1
        · exact h j' h'
end Lg
/-! LgQ -/
set_option maxHeartbeats 4000000
namespace Lg
open PySem L2
def askR (x : Str) : En := .r (x, [.str "ignore", .int 1, .int 1, .int 1])
def hideR (x : Str) : En := .r (x, [.str "ok", .str "bad", .str "bad", .str "bad"])
def eight : List En := [askR "x", hideR "a", askR "y", hideR "b", askR "z", hideR "c"]
def ownN : List Str := ["x", "y", "z"]
def hidN : List Str := ["a", "b", "c"]
def mk8 (m : Mk0) (y : Bool) (n : Int) : Mk0 := if y = true then (match m with | .none => .good | _ => m) else (match m with | .bad _ => m | _ => .bad n)
theorem ix_yes : ixRes "yes" = 0 := by decide
theorem ix_not {r : Str} (h : r ≠ "yes") : ixRes r = 1 ∨ ixRes r = 2 ∨ ixRes r = 3 := by
  unfold ixRes
  rw [if_neg h]
  split
  · exact .inl rfl
  · split
    · exact .inr (.inl rfl)
    · exact .inr (.inr rfl)
theorem act4 (x : Str) (p q : V) (r : Str) : actOf (x, [p, q, q, q]) r = if r = "yes" then p else q := by
  unfold actOf
  by_cases h : r = "yes"
  · rw [if_pos h, h, ix_yes]; rfl
  · rw [if_neg h]
    rcases ix_not h with e | e | e <;> rw [e] <;> rfl
theorem rx_r (a : Ans) (b : Mk0) (x : Ru) (es : List En) (n : Int) (m : Mk0) :
    runE a b (.r x :: es) 0 n m = if stopsAt (actOf x (get a x.1)) (markd (actOf x (get a x.1)) m b n) = true then markd (actOf x (get a x.1)) m b n else runE a b es (jumpOf (actOf x (get a x.1))) (n + 1) (markd (actOf x (get a x.1)) m b n) := by
  rw [runE]
theorem rx_s (a : Ans) (b : Mk0) (e : En) (es : List En) (l : Nat) (n : Int) (m : Mk0) : runE a b (e :: es) (l + 1) n m = runE a b es l (n + e.rules.length) m := by
  rw [runE]
theorem rx_go {a : Ans} {b : Mk0} {x : Ru} {es : List En} {n : Int} {m m' : Mk0} {l : Nat} (h1 : stopsAt (actOf x (get a x.1)) m' = false) (h2 : markd (actOf x (get a x.1)) m b n = m') (h3 : jumpOf (actOf x (get a x.1)) = l) :
    runE a b (.r x :: es) 0 n m = runE a b es l (n + 1) m' := by
  rw [rx_r, h2, h1, h3, if_neg (by decide)]
theorem run_pair (a : Ans) (b : Mk0) (x h : Str) (es : List En) (n : Int) (m : Mk0) :
    runE a b (askR x :: hideR h :: es) 0 n m = runE a b es 0 (n + 2) (if get a x = "yes" then mk8 m (decide (get a h = "yes")) (n + 1) else m) := by
  have e2 : n + 1 + 1 = n + 2 := by omega
  have ex : actOf (x, [V.str "ignore", .int 1, .int 1, .int 1]) (get a x) = if get a x = "yes" then V.str "ignore" else .int 1 := act4 _ _ _ _
  have eh : actOf (h, [V.str "ok", .str "bad", .str "bad", .str "bad"]) (get a h) = if get a h = "yes" then V.str "ok" else .str "bad" := act4 _ _ _ _
  unfold askR hideR
  by_cases hx : get a x = "yes"
  · rw [if_pos hx] at ex ⊢
    rw [rx_go (l := 0) (m' := m) (by dsimp only; rw [ex]; rfl) (by dsimp only; rw [ex]; rfl) (by dsimp only; rw [ex]; rfl)]
    by_cases hh : get a h = "yes"
    · rw [if_pos hh] at eh
      rw [decide_eq_true hh, rx_go (l := 0) (m' := mk8 m true (n + 1)) (by dsimp only; rw [eh]; rfl) (by dsimp only; rw [eh]; rfl) (by dsimp only; rw [eh]; rfl), e2]
    · rw [if_neg hh] at eh
      rw [decide_eq_false hh, rx_go (l := 0) (m' := mk8 m false (n + 1)) (by dsimp only; rw [eh]; rfl) (by dsimp only; rw [eh]; rfl) (by dsimp only; rw [eh]; rfl), e2]
  · rw [if_neg hx] at ex ⊢
    rw [rx_go (l := 1) (m' := m) (by dsimp only; rw [ex]; rfl) (by dsimp only; rw [ex]; rfl) (by dsimp only; rw [ex]; rfl), rx_s]
    rw [show n + 1 + ((En.r (h, [V.str "ok", .str "bad", .str "bad", .str "bad"])).rules.length : Int) = n + 2 from e2]
def w8 (x a y b z c : Bool) : Bool := (x || y || z) && (!x || a) && (!y || b) && (!z || c)
def word (t : Bool) : Str := if t = true then "in" else "out"
theorem leads_eight (a : Ans) : leads eight a = word (w8 (decide (get a "x" = "yes")) (decide (get a "a" = "yes")) (decide (get a "y" = "yes")) (decide (get a "b" = "yes")) (decide (get a "z" = "yes")) (decide (get a "c" = "yes"))) := by
  unfold leads eight
  rw [run_pair, run_pair, run_pair]
  show (if (if get a "z" = "yes" then _ else _) = Mk0.good then _ else _) = _
  by_cases x : get a "x" = "yes" <;> by_cases y : get a "y" = "yes" <;> by_cases z : get a "z" = "yes" <;> simp only [x, y, z, if_true, if_false, decide_true, decide_false] <;>
    cases decide (get a "a" = "yes") <;> cases decide (get a "b" = "yes") <;> cases decide (get a "c" = "yes") <;> rfl
/-- three answers -/
def ans3 (n1 n2 n3 r1 r2 r3 : Str) : Ans := [(n1, r1), (n2, r2), (n3, r3)]
theorem mem_ans3 {n1 n2 n3 : Str} {a : Ans} : a ∈ allAns [n1, n2, n3] ↔ ∃ r1 ∈ results, ∃ r2 ∈ results, ∃ r3 ∈ results, a = ans3 n1 n2 n3 r1 r2 r3 := by
  unfold allAns
  simp only [List.foldl_cons, List.foldl_nil, List.mem_flatMap, List.mem_map, List.mem_singleton]
  constructor
  · rintro ⟨_, ⟨_, ⟨_, rfl, r1, h1, rfl⟩, r2, h2, rfl⟩, r3, h3, rfl⟩
    exact ⟨r1, h1, r2, h2, r3, h3, rfl⟩
  · rintro ⟨r1, h1, r2, h2, r3, h3, rfl⟩
    exact ⟨_, ⟨_, ⟨_, rfl, r1, h1, rfl⟩, r2, h2, rfl⟩, r3, h3, rfl⟩
def rowOf (es : List En) (c : Ans) : Row := (allAns ownN).map fun ch => leads es (c ++ ch)
abbrev Fl := Bool × Bool × Bool
def flags : List Fl := [(true, true, true), (true, true, false), (true, false, true), (true, false, false), (false, true, true), (false, true, false), (false, false, true), (false, false, false)]
def rowB (f : Fl) : Row := (allAns ownN).map fun ch => word (w8 (decide (get ch "x" = "yes")) f.1 (decide (get ch "y" = "yes")) f.2.1 (decide (get ch "z" = "yes")) f.2.2)
theorem row_eight {r1 r2 r3 : Str} : rowOf eight (ans3 "a" "b" "c" r1 r2 r3) = rowB (decide (r1 = "yes"), decide (r2 = "yes"), decide (r3 = "yes")) := by
  unfold rowOf rowB
  refine List.map_congr_left fun ch h => ?_
  obtain ⟨s1, _, s2, _, s3, _, rfl⟩ := mem_ans3.mp h
  rw [leads_eight]
  rfl
theorem mem_flags (f : Fl) : f ∈ flags := by
  obtain ⟨a, b, c⟩ := f
  cases a <;> cases b <;> cases c <;> decide
theorem rowB_len (f : Fl) : (rowB f).length = 64 := by
  unfold rowB; rw [List.length_map]; decide +kernel
theorem rowB_word (f : Fl) : ∀ x ∈ rowB f, x = "in" ∨ x = "out" := by
  intro x h
  unfold rowB at h
  obtain ⟨ch, _, rfl⟩ := List.mem_map.mp h
  unfold word
  split
  · exact .inl rfl
  · exact .inr rfl
theorem rowB_at : ∀ f : Fl, (rowB f).getD 5 "in" = word f.1 ∧ (rowB f).getD 17 "in" = word f.2.1 ∧ (rowB f).getD 20 "in" = word f.2.2 := by
  rintro ⟨a, b, c⟩
  cases a <;> cases b <;> cases c <;> decide +kernel
theorem word_inj {a b : Bool} (h : word a = word b) : a = b := by
  cases a <;> cases b <;> first | rfl | exact absurd h (by decide)
theorem rowB_inj {f g : Fl} (h5 : (rowB f).getD 5 "in" = (rowB g).getD 5 "in") (h17 : (rowB f).getD 17 "in" = (rowB g).getD 17 "in") (h20 : (rowB f).getD 20 "in" = (rowB g).getD 20 "in") : f = g := by
  rw [(rowB_at f).1, (rowB_at g).1] at h5
  rw [(rowB_at f).2.1, (rowB_at g).2.1] at h17
  rw [(rowB_at f).2.2, (rowB_at g).2.2] at h20
  obtain ⟨a, b, c⟩ := f
  obtain ⟨a', b', c'⟩ := g
  rw [show a = a' from word_inj h5, show b = b' from word_inj h17, show c = c' from word_inj h20]
def rows64 : List Row := (allAns hidN).map (rowOf eight)
theorem mem_rows64 (r : Row) : r ∈ rows64 ↔ ∃ f, r = rowB f := by
  unfold rows64
  rw [List.mem_map]
  constructor
  · rintro ⟨c, h, rfl⟩
    obtain ⟨s1, _, s2, _, s3, _, rfl⟩ := mem_ans3.mp h
    exact ⟨_, row_eight⟩
  · rintro ⟨⟨a, b, c⟩, rfl⟩
    have k : ∀ t : Bool, ∃ r ∈ results, decide (r = "yes") = t := fun t => by
      cases t
      · exact ⟨"no", by decide, by decide⟩
      · exact ⟨"yes", by decide, by decide⟩
    obtain ⟨r1, h1, e1⟩ := k a
    obtain ⟨r2, h2, e2⟩ := k b
    obtain ⟨r3, h3, e3⟩ := k c
    refine ⟨ans3 "a" "b" "c" r1 r2 r3, mem_ans3.mpr ⟨r1, h1, r2, h2, r3, h3, rfl⟩, ?_⟩
    rw [row_eight, e1, e2, e3]
theorem kinds_len {L : List Row} (nd : L.Nodup) (h : ∀ r, r ∈ L ↔ r ∈ rows64) : L.length = 8 := by
  have nf : (flags.map rowB).Nodup := by
    rw [List.nodup_iff_pairwise_ne, List.pairwise_map]
    have : flags.Pairwise (· ≠ ·) := by decide
    refine this.imp fun hne e => hne (rowB_inj ?_ ?_ ?_) <;> rw [e]
  have p : L.Perm (flags.map rowB) := by
    refine (List.perm_ext_iff_of_nodup nd nf).mpr fun r => ?_
    rw [h, mem_rows64, List.mem_map]
    constructor
    · rintro ⟨f, rfl⟩; exact ⟨f, mem_flags f, rfl⟩
    · rintro ⟨f, _, rfl⟩; exact ⟨f, rfl⟩
  rw [p.length_eq]
  rfl
theorem ok_rows64 {L : List Row} (h : ∀ r, r ∈ L ↔ r ∈ rows64) : ∀ r ∈ L, r.length = 64 ∧ ∀ x ∈ r, x = "in" ∨ x = "out" := by
  intro r hr
  obtain ⟨f, rfl⟩ := (mem_rows64 r).mp ((h r).mp hr)
  exact ⟨rowB_len f, rowB_word f⟩
theorem okRows_of {n : Nat} {rows : List Row} (h : ∀ r ∈ rows, r.length = n ∧ ∀ x ∈ r, x = "in" ∨ x = "out") : okRows n rows := by
  intro r hr j hj
  obtain ⟨h1, h2⟩ := h r hr
  rw [List.getD_eq_getElem?_getD, List.getElem?_eq_getElem (by omega)]
  exact h2 _ (List.getElem_mem _)
theorem fewest_eight {L : List Row} (nd : L.Nodup) (h : ∀ r, r ∈ L ↔ r ∈ rows64) : fewest 64 L = 3 := by
  have ok : okRows 64 L := okRows_of (ok_rows64 h)
  have h1 := fewest_low _ L (Nat.le_refl _) ok
  rw [kinds_len nd h] at h1
  have h2 := fewest_up (n := 64) [5, 17, 20] L (by decide) nd (fun r hr r' hr' e => ?_) ok
  · have h2' : fewest 64 L ≤ 3 := h2
    generalize fewest 64 L = q at h1 h2'
    match q, h1, h2' with
    | 0, h1, _ => exact absurd h1 (by decide)
    | 1, h1, _ => exact absurd h1 (by decide)
    | 2, h1, _ => exact absurd h1 (by decide)
    | 3, _, _ => rfl
    | q + 4, _, h2 => omega
  · obtain ⟨f, rfl⟩ := (mem_rows64 r).mp ((h r).mp hr)
    obtain ⟨g, rfl⟩ := (mem_rows64 r').mp ((h r').mp hr')
    rw [rowB_inj (e 5 (by simp)) (e 17 (by simp)) (e 20 (by simp))]
end Lg
/-! D1 -/
set_option maxHeartbeats 4000000
namespace Lg
open PySem L2
section
variable {P : Program} {w : World} {K : PySem.W.Frag} {mg : Str → Option Value} {base : Heap}
def sp_is_number : Sp := fun vs H Q _ => ∃ i lo hi : Int, vs = [.int i, .int lo, .int hi] ∧ Q (.bl (decide (lo ≤ i) && decide (i ≤ hi))) H
theorem ok_is_number (T : Txt K mg) : FnOk P w K mg base CX0 1 (a_is_number K) (fdOf K (a_is_number K)) ["thing", "low", "high"] sp_is_number := by
  refine (f_is_number T).ok sc_is_number (fun vs H Q E h => ?_) (fun cdv A outer s H vs Q E hr h => ?_)
  · obtain ⟨i, lo, hi, rfl, _⟩ := h
    rfl
  · obtain ⟨i, lo, hi, rfl, k⟩ := h
    refine ⟨_, (pss_one (ps_ret (pe_and (pe_callB call_isi (by rfl) (n_isinstance T) (by decide +kernel) (pa_cons (pv 0) (pa_cons (pe_ty (n := "int") (by rfl) (n_int T) (by decide +kernel)) pa_nil))) (pe_and (pe_not (pe_callB call_isi (by rfl) (n_isinstance T) (by decide +kernel) (pa_cons (pv 0) (pa_cons (pe_ty (n := "bool") (by rfl) (n_bool T) (by decide +kernel)) pa_nil)))) (pe_one (pe_chain op_le op_le (pv 1) (pv 0) (pv 2))))))), ?_⟩
    refine ⟨_, rfl, _, .ty _, _, _, true, rfl, .ty _, .base (.int i), kit_ty (by decide +kernel), ⟨true, rfl, iteT ?_⟩⟩
    refine ⟨_, rfl, _, .ty _, _, _, false, rfl, .ty _, .base (.int i), kit_ty (by decide +kernel), ⟨false, rfl, ⟨true, rfl, iteT ?_⟩⟩⟩
    refine ⟨_, rfl, _, rfl, _, _, rfl, rfl, _, rfl, ?_⟩
    cases h1 : decide (lo ≤ i) with
    | true =>
      rw [h1] at k
      exact iteT ⟨_, rfl, _, _, rfl, rfl, k⟩
    | false =>
      rw [h1] at k
      exact iteF k
def sp_is_action : Sp := fun vs H Q _ => ∃ v : V, vs = [v] ∧ okAct v = true ∧ Q (.bl true) H
theorem ok_is_action (T : Txt K mg) : FnOk P w K mg base CX0 2 (a_is_action K) (fdOf K (a_is_action K)) ["thing"] sp_is_action := by
  refine (f_is_action T).ok sc_is_action (fun vs H Q E h => ?_) (fun cdv A outer s H vs Q E hr h => ?_)
  · obtain ⟨v, rfl, _⟩ := h
    rfl
  · obtain ⟨v, rfl, hv, k⟩ := h
    refine ⟨_, (pss_one (ps_ret (pe_or (pe_and (pe_callB call_isi (by rfl) (n_isinstance T) (by decide +kernel) (pa_cons (pv 0) (pa_cons (pe_ty (n := "str") (by rfl) (n_str T) (by decide +kernel)) pa_nil))) (pe_one (pe_cmpR op_in_seq (pv 0) (pe_gr (by rfl) (g_ACTIONS T)) (by rfl)))) (pe_one (pe_call (ok_is_number T) (hr.mono (by decide)) (by rfl) (g_is_number T) (f_is_number T).kp (b_is_number T) .nil pass0 (pa_cons (pv 0) (pa_cons pe_int (pa_cons (pe_gi (by rfl) (g_MOST_JUMP T)) pa_nil)))))))), ?_⟩
    cases v with
    | str x =>
      refine ⟨_, rfl, _, .ty _, _, _, true, rfl, .ty _, .base (.str x), kit_ty (by decide +kernel), ⟨true, rfl, iteT ?_⟩⟩
      refine ⟨_, rfl, _, _, rfl, .inr (t_ACTIONS T _), rfl, by decide, ?_⟩
      have e : inV (.str x) [.str "ok", .str "bad", .str "die", .str "done", .str "ignore", .str "reset"] = true := by
        have hv' : (x == "ok" || x == "bad" || x == "die" || x == "done" || x == "ignore" || x == "reset") = true := hv
        simp only [inV, List.any_cons, List.any_nil, eqV, Bool.or_false]
        simp only [Bool.or_eq_true, beq_iff_eq] at hv' ⊢
        rcases hv' with ((((h | h) | h) | h) | h) | h <;> simp [h]
      rw [e]
      exact ⟨true, rfl, iteT k⟩
    | int i =>
      refine ⟨_, rfl, _, .ty _, _, _, false, rfl, .ty _, .base (.int i), kit_ty (by decide +kernel), ⟨false, rfl, iteF ⟨false, rfl, iteF ?_⟩⟩⟩
      refine ⟨_, rfl, i, 1, 9, rfl, ?_⟩
      have h9 : 1 ≤ i ∧ i ≤ 9 := of_decide_eq_true hv
      rw [decide_eq_true h9.1, decide_eq_true h9.2]
      exact k
    | _ => cases hv
end
end Lg
/-! D2 -/
set_option maxHeartbeats 4000000
namespace Lg
open PySem L2
theorem letter_in (c : Nat) : decide (c ∈ ("abcdefghijklmnopqrstuvwxyz" : Str).cps.toList) = decide (97 ≤ c ∧ c ≤ 122) := by
  have e : ("abcdefghijklmnopqrstuvwxyz" : Str).cps.toList = (List.range 26).map fun i => 97 + i := by decide +kernel
  rw [e]
  by_cases h : 97 ≤ c ∧ c ≤ 122
  · rw [decide_eq_true h]
    exact decide_eq_true (List.mem_map.mpr ⟨c - 97, List.mem_range.mpr (by omega), by omega⟩)
  · rw [decide_eq_false h]
    refine decide_eq_false fun z => ?_
    obtain ⟨i, hi, e⟩ := List.mem_map.mp z
    have := List.mem_range.mp hi
    omega
section
variable {P : Program} {w : World} {K : PySem.W.Frag} {mg : Str → Option Value} {base : Heap}
def sp_is_word : Sp := fun vs H Q _ => ∃ (B : Hp) (x : Str), vs = [.str x] ∧ okMod x = true ∧ Same B H ∧ Ret B H (RV (.bl true)) Q
theorem ok_is_word (T : Txt K mg) : FnOk P w K mg base CX0 1 (a_is_word K) (fdOf K (a_is_word K)) ["thing"] sp_is_word := by
  refine (f_is_word T).ok sc_is_word (fun vs H Q E h => ?_) (fun cdv A outer s H vs Q E hr h => ?_)
  · obtain ⟨B, x, rfl, _⟩ := h
    rfl
  · obtain ⟨B, x, rfl, hx, sm, k⟩ := h
    have hx2 : (decide (1 ≤ x.length) && decide (x.length ≤ 8) && x.cps.toList.all fun c => decide (97 ≤ c ∧ c ≤ 122)) = true := hx
    obtain ⟨hx3, hx4⟩ := Bool.and_eq_true_iff.mp hx2
    obtain ⟨hx5, hx6⟩ := Bool.and_eq_true_iff.mp hx3
    have l1 : 1 ≤ x.length := of_decide_eq_true hx5
    have l8 : x.length ≤ 8 := of_decide_eq_true hx6
    refine ⟨_, (pss_cons (ps_if (PW.pt (pw_or (pt_not (pt_val (pe_callB call_isi (by rfl) (n_isinstance T) (by decide +kernel) (pa_cons (pv 0) (pa_cons (pe_ty (n := "str") (by rfl) (n_str T) (by decide +kernel)) pa_nil))))) (pw_or1 (pt_not (pt_chain op_le op_le pe_int (pe_callB call_len_str (by rfl) (n_len T) (by decide +kernel) (pa_cons (pv 0) pa_nil)) (pe_gi (by rfl) (g_MOST_LETTERS T))))))) (pss_one (ps_ret pe_bl)) pss_nil) (pss_one (ps_ret (pe_callB (cr_all rfl) (by rfl) (n_all T) (by decide +kernel) (pa_cons (pe_lc (own := [("letter", 1)]) (by rfl) sc_is_word.nd (pi_str (pv 0)) (blkOk_by (own := [("letter", 1)]) (N := N_is_word) (sc := defScope s_is_word) (by decide +kernel)) (fun _ _ _ _ _ => (pg_name (i := 1) sc_is_word.nd rfl (Or.inl rfl))) (fun _ _ _ _ _ => pts_nil) (fun _ _ _ _ _ => (pe_cmpR op_in_sign (pv 1) (pe_gs (by rfl) (g_LETTERS T)) (by rfl)))) pa_nil))))), ?_⟩
    refine ⟨_, rfl, _, .ty _, _, _, true, rfl, .ty _, .base (.str x), kit_ty (by decide +kernel), ⟨true, rfl, ?_⟩⟩
    refine iteF (⟨_, rfl, x, rfl, line_le (by omega), _, _, rfl, rfl, true, (by show V.bl (decide ((1:Int) ≤ (x.length:Int))) = V.bl true; rw [decide_eq_true (show (1 : Int) ≤ (x.length : Int) by omega)]), ?_⟩ : _)
    refine iteT ?_
    refine ⟨_, _, rfl, rfl, true, (by show V.bl (decide ((x.length:Int) ≤ (8:Int))) = V.bl true; rw [decide_eq_true (show (x.length : Int) ≤ (8 : Int) by omega)]), ?_⟩
    refine ⟨_, rfl, x, rfl, fun D hD => ?_⟩
    refine lc_sel walk_str (M := M0) (B1 := B) (fun i => (x.cps.toList[i]?).map fun c => RV (.bl true)) sm hD mok0 (line_lt (by have : x.cps.size = x.length := rfl; omega)) (fun _ _ _ => trivial) (fun i R e => ?_) (fun i v B2 H2 H2' hi g y Ky Kn ky kn => ?_) (fun ys B2 H2 g h2 hP => ?_)
    · cases e2 : x.cps.toList[i]? with
      | none => rw [e2] at e; cases e
      | some c => rw [e2] at e; cases e; exact mono_v _
    · obtain ⟨rfl, c, hc, rfl⟩ := y
      have hc' : x.cps.toList[i]? = some c := by rw [Array.getElem?_toList]; exact hc
      refine ⟨rfl, ⟨_, rfl, c, _, rfl, rfl, ?_⟩⟩
      have := List.all_eq_true.mp hx4 c (List.mem_of_getElem? hc')
      rw [letter_in, this]
      exact ky _ (by simp only [hc']; rfl) _ B2 _ (Gr.refl g.sub) rfl
    · have e : selN (fun i => (x.cps.toList[i]?).map fun c => RV (.bl true)) x.cps.size = x.cps.toList.map fun _ => RV (.bl true) := by
        have h := selN_all (x.cps.toList.map fun _ => RV (.bl true))
        simpa using h
      rw [e] at hP
      have e3 := PairR.of_consts (fun _ => V.bl true) hP
      refine ⟨D, x.cps.toList.map fun _ => true, rfl, ?_, ?_⟩
      · rw [List.map_map]
        exact SqL.of (by rw [g.sub _ _ h2, e3]; rfl)
      · have : (x.cps.toList.map fun _ => true).all id = true := by simp
        rw [this]
        exact k _ _ _ g rfl
end
end Lg
/-! D3 -/
set_option maxHeartbeats 4000000
namespace Lg
open PySem L2
section
variable {P : Program} {w : World} {K : PySem.W.Frag} {mg : Str → Option Value} {base : Heap}
def sp_table_of (K : PySem.W.Frag) : Sp := fun vs H Q _ => ∃ (B : Hp) (t : Addr) (acts : List V), vs = [.ref t] ∧ SqT K B t acts ∧ acts.length = 4 ∧ acts.all okAct = true ∧ Same B H ∧ Ret B H (RV (.ref t)) Q
theorem ok_table_of (T : Txt K mg) : FnOk P w K mg base CX0 3 (a_table_of K) (fdOf K (a_table_of K)) ["control"] (sp_table_of K) := by
  refine (f_table_of T).ok sc_table_of (fun vs H Q E h => ?_) (fun cdv A outer s H vs Q E hr h => ?_)
  · obtain ⟨B, t, acts, rfl, _⟩ := h
    rfl
  · obtain ⟨B, t, acts, rfl, ht, hl, ha, sm, k⟩ := h
    refine ⟨_, (pss_cons (ps_if (pt_val (pe_callB call_isi (by rfl) (n_isinstance T) (by decide +kernel) (pa_cons (pv 0) (pa_cons (pe_ty (n := "str") (by rfl) (n_str T) (by decide +kernel)) pa_nil)))) (pss_one ps_never) pss_nil) (pss_cons (ps_if (PW.pt (pw_or (pt_not (pt_val (pe_callB call_isi (by rfl) (n_isinstance T) (by decide +kernel) (pa_cons (pv 0) (pa_cons (pe_ty (n := "tuple") (by rfl) (n_tuple T) (by decide +kernel)) pa_nil))))) (pw_or (pt_cmpR op_ne (pe_callB call_len_seq (by rfl) (n_len T) (by decide +kernel) (pa_cons (pv 0) pa_nil)) (pe_callB call_len_seq (by rfl) (n_len T) (by decide +kernel) (pa_cons (pe_gr (by rfl) (g_RESULTS T)) pa_nil)) (nomark _)) (pw_or1 (pt_not (pt_val (pe_callB (cr_all rfl) (by rfl) (n_all T) (by decide +kernel) (pa_cons (pe_lc (own := [("one", 1)]) (by rfl) sc_table_of.nd (pi_tup (pv 0)) (blkOk_by (own := [("one", 1)]) (N := N_table_of) (sc := defScope s_table_of) (by decide +kernel)) (fun _ _ _ _ _ => (pg_name (i := 1) sc_table_of.nd rfl (Or.inl rfl))) (fun _ _ _ _ _ => pts_nil) (fun _ _ _ _ _ => (pe_call (ok_is_action T) (hr.mono (by decide)) (by rfl) (g_is_action T) (f_is_action T).kp (b_is_action T) .nil pass0 (pa_cons (pv 1) pa_nil)))) pa_nil)))))))) (pss_one (ps_ret pe_non)) pss_nil) (pss_one (ps_ret (pv 0))))), ?_⟩
    have ity : ∀ H', Same B H' → TyX K H' (.ref t) (.type "tuple") := fun H' s => tyTup (sqT_same s ht)
    refine ⟨_, rfl, _, .ty _, _, _, false, rfl, .ty _, (ity _ sm), kit_ty (by decide +kernel), ⟨false, rfl, iteF ?_⟩⟩
    refine ⟨_, rfl, _, .ty _, _, _, true, rfl, .ty _, (ity _ sm), kit_ty (by decide +kernel), ⟨true, rfl, ?_⟩⟩
    refine iteF ⟨_, rfl, t, acts, rfl, .inr (sqT_same sm ht), _, _, rfl, .inr (t_RESULTS T _), rfl, false, ?_, ?_⟩
    · rw [hl]; rfl
    refine iteF ⟨_, rfl, t, rfl, ⟨acts, sqT_same sm ht⟩, fun D hD => ?_⟩
    refine lc_T (B1 := B) (M := M0) (fun i => (acts[i]?).map fun _ => RV (.bl true)) sm ht hD mok0 (by rw [hl]; decide) (fun i R e => ?_) (fun i v B2 H2 hi g Ky Kn ky kn => ?_) (fun ys B2 H2 g h2 hP => ?_)
    · cases e2 : acts[i]? with
      | none => rw [e2] at e; cases e
      | some c => rw [e2] at e; cases e; exact mono_v _
    · refine ⟨rfl, ⟨_, rfl, v, rfl, List.all_eq_true.mp ha v (List.mem_of_getElem? hi), ?_⟩⟩
      exact ky _ (by simp only [hi]; rfl) _ B2 _ (Gr.refl g.sub) rfl
    · have e : selN (fun i => (acts[i]?).map fun _ => RV (.bl true)) acts.length = acts.map fun _ => RV (.bl true) := by
        have h := selN_all (acts.map fun _ => RV (.bl true))
        simpa using h
      rw [e] at hP
      have e3 := PairR.of_consts (fun _ => V.bl true) hP
      refine ⟨D, acts.map fun _ => true, rfl, ?_, true, ?_, iteF ⟨_, rfl, ?_⟩⟩
      · rw [List.map_map]
        exact SqL.of (by rw [g.sub _ _ h2, e3]; rfl)
      · have : (acts.map fun _ => true).all id = true := by simp
        rw [this]
      · exact k _ _ _ g rfl
def sp_Rule_init (K : PySem.W.Frag) : Sp := fun vs H Q _ => ∃ (B : Hp) (a dx t : Addr) (x : Str) (acts : List V), vs = [.ref a, .str x, .ref t] ∧ B a = none ∧ H a = some (.ins (c_Rule K) dx []) ∧ okMod x = true ∧
  SqT K B t acts ∧ acts.length = 4 ∧ acts.all okAct = true ∧ Same B H ∧ ∀ B' H', Gr (fun p => p = a) B H B' H' → H' a = some (.ins (c_Rule K) dx [("asks", .str x), ("acts", .ref t)]) → Q .non H'
theorem ok_Rule_init (T : Txt K mg) : FnOk P w K mg base CX0 4 (a_Rule_init K) (fdOf K (a_Rule_init K)) ["self", "module", "control"] (sp_Rule_init K) := by
  refine (f_Rule_init T).ok sc_Rule_init (fun vs H Q E h => ?_) (fun cdv A outer s H vs Q E hr h => ?_)
  · obtain ⟨B, a, dx, t, x, acts, rfl, _⟩ := h
    rfl
  · obtain ⟨B, a, dx, t, x, acts, rfl, hB, hH, hx, ht, hl, ha, sm, k⟩ := h
    refine ⟨_, (pss_cons (ps_if (pt_not (pt_val (pe_call (ok_is_word T) (hr.mono (by decide)) (by rfl) (g_is_word T) (f_is_word T).kp (b_is_word T) .nil pass0 (pa_cons (pv 1) pa_nil)))) (pss_one ps_never) pss_nil) (pss_cons (ps_if (pt_cmpR op_isN (pe_call (ok_table_of T) (hr.mono (by decide)) (by rfl) (g_table_of T) (f_table_of T).kp (b_table_of T) .nil pass0 (pa_cons (pv 2) pa_nil)) pe_non (nomark _)) (pss_one ps_never) pss_nil) (pss_cons (ps_fld (pv 0) (pv 1) rfl) (pss_one (ps_fld (pv 0) (pe_call (ok_table_of T) (hr.mono (by decide)) (by rfl) (g_table_of T) (f_table_of T).kp (b_table_of T) .nil pass0 (pa_cons (pv 2) pa_nil)) rfl))))), ?_⟩
    refine ⟨_, rfl, B, x, rfl, hx, sm, fun v B1 H1 g1 e => ?_⟩
    cases e
    refine ⟨true, rfl, iteF ⟨_, rfl, B1, t, acts, rfl, sqT_same g1.base ht, hl, ha, g1.sub, fun v B2 H2 g2 e => ?_⟩⟩
    cases e
    refine ⟨rfl, false, rfl, iteF ?_⟩
    have g12 := g1.then0 g2
    have h2 := g12.keep a _ (fun z => z) hH
    refine ⟨_, rfl, _, rfl, a, c_Rule K, dx, [], rfl, h2, cl_Rule T, na_Rule_asks T, by decide, ?_⟩
    have hb2 : B2 a = none := g12.new a _ hB hH
    have g3 := Gr.set' (M := fun p => p = a) (o := .ins (c_Rule K) dx [("asks", .str x)]) g12.up hb2 rfl
    refine ⟨_, rfl, B2, t, acts, rfl, sqT_same g12.base ht, hl, ha, g3.sub, fun v B4 H4 g4 e => ?_⟩
    cases e
    have g5 := Gr.trans (fun p e => by cases e; exact ⟨hB, _, hH⟩) g3 g4.up
    have h4 := g4.keep a _ (fun z => z) (upd_same (H := H2))
    refine ⟨_, rfl, a, c_Rule K, dx, [("asks", .str x)], rfl, h4, cl_Rule T, na_Rule_acts T, (show 1 < 1000 by decide), ?_⟩
    exact k _ _ (Gr.set' g5 (g5.new a _ hB hH) rfl) upd_same
/-- Rule(x, acts) -/
theorem mk_rule {H : Hp} {Q : Addr → Hp → Prop} {E : XK} {B : Hp} {x : Str} {t : Addr} {acts : List V} (hx : okMod x = true) (ht : SqT K B t acts) (hl : acts.length = 4) (ha : acts.all okAct = true) (sm : Same B H) (k : ∀ a B' H', Gr M0 B H B' H' → rRule K (x, acts) (.ref a) B' → Q a H') :
    ∀ a dx, H a = none → H dx = none → dx ≠ a → sp_Rule_init K [.ref a, .str x, .ref t] (upd (upd H dx (.own a)) a (.ins (c_Rule K) dx [])) (fun v H2 => v = .non ∧ Q a H2) E := by
  intro a dx h1 h2 hne
  have s1 : Same H (upd (upd H dx (.own a)) a (.ins (c_Rule K) dx [])) := fun p u e => by
    rw [upd_ne (ne_of_none e h1), upd_ne (ne_of_none e h2)]; exact e
  refine ⟨B, a, dx, t, x, acts, rfl, sm.free h1, upd_same, hx, ht, hl, ha, sm.trans s1, fun B' H' g e => ⟨rfl, ?_⟩⟩
  obtain ⟨g1, g2⟩ := Gr.made sm h1 h2 hne g e
  refine k _ _ _ g1 ⟨a, dx, t, rfl, g2, sqT_same g1.base ht⟩
def RuEq (K : PySem.W.Frag) : Addr → Addr → Hp → Prop := fun a b H => ∃ x : Ru, rRule K x (.ref a) H ∧ rRule K x (.ref b) H ∧ x.2.all okAct = true
theorem ok_Rule_eq (T : Txt K mg) : FnOk P w K mg base CX0 5 (a_Rule_eq K) (fdOf K (a_Rule_eq K)) ["self", "other"] (spEq (RuEq K)) := by
  refine (f_Rule_eq T).ok sc_Rule_eq (fun vs H Q E h => ?_) (fun cdv A outer s H vs Q E hr h => ?_)
  · obtain ⟨a, b, rfl, _⟩ := h
    rfl
  · obtain ⟨a, b, rfl, ⟨x, ⟨a1, dx, t, e1, h1, ht⟩, ⟨b1, dy, u, e2, h2, hu⟩, hact⟩, k⟩ := h
    cases e1
    cases e2
    refine ⟨_, (pss_one (ps_ret (pe_and (pe_callB call_isi (by rfl) (n_isinstance T) (by decide +kernel) (pa_cons (pv 1) (pa_cons (pe_gr (by rfl) (g_Rule T)) pa_nil))) (pe_one (pe_cmpR (op_eqG (rcG_tup (Mon.or mon_flat (mon_tup mon_flat)) (EqG.or (n := 2) (eqG_flat.mono (by decide)) ((eqG_tup mon_flat eqG_flat).mono (by decide)))) (hr.mono (by decide))) (pe_tup (pa_cons (pe_fld (pv 0) rfl) (pa_cons (pe_fld (pv 0) rfl) pa_nil))) (pe_tup (pa_cons (pe_fld (pv 1) rfl) (pa_cons (pe_fld (pv 1) rfl) pa_nil))) (nomark _)))))), ?_⟩
    refine ⟨_, rfl, _, .ref _, _, _, true, rfl, .own _, .base (.ins h2 (cl_Rule T) (ic_Rule T) (ig_ T) (it_ T) (im_Rule T)), io_Rule_Rule T, true, rfl, iteT ?_⟩
    refine ⟨_, rfl, a, _, dx, _, _, rfl, h1, cl_Rule T, na_Rule_asks T, rfl, _, rfl, a, _, dx, _, _, rfl, h1, cl_Rule T, na_Rule_acts T, rfl, line_le (show 2 ≤ 1000000 by decide), fun p hp => ?_⟩
    have h2' : (upd H p (.tup [.str x.1, .ref t])) b = some (.ins (c_Rule K) dy [("asks", .str x.1), ("acts", .ref u)]) := by rw [upd_ne (ne_of_none h2 hp)]; exact h2
    refine ⟨_, rfl, b, _, dy, _, _, rfl, h2', cl_Rule T, na_Rule_asks T, rfl, _, rfl, b, _, dy, _, _, rfl, h2', cl_Rule T, na_Rule_acts T, rfl, line_le (show 2 ≤ 1000000 by decide), fun q hq => ?_⟩
    have s1 : Same H (upd (upd H p (.tup [.str x.1, .ref t])) q (.tup [.str x.1, .ref u])) := fun z o e => by
      have e' : (upd H p (.tup [.str x.1, .ref t])) z = some o := by rw [upd_ne (ne_of_none e hp)]; exact e
      rw [upd_ne (ne_of_none e' hq)]; exact e'
    refine ⟨⟨p, q, [.str x.1, .ref t], [.str x.1, .ref u], rfl, rfl, .inl (.inl ?_), .inl (.inl upd_same), ?_⟩, fun H' e => k H' (Ext.trans s1 e)⟩
    · rw [upd_ne (ne_of_none upd_same hq)]; exact upd_same
    · refine .cons (.inl ⟨rfl, rfl, ?_⟩) (.cons (.inr ⟨t, u, x.2, x.2, rfl, rfl, sqT_same s1 ht, sqT_same s1 hu, rfl, fun i v v' e1 e2 => ?_⟩) .nil)
      · simp [eqV]
      · rw [e1] at e2
        cases e2
        have := List.all_eq_true.mp hact v (List.mem_of_getElem? e1)
        cases v <;> first | (cases this; done) | exact ⟨rfl, rfl, by simp [eqV]⟩
def sp_action_for (K : PySem.W.Frag) : Sp := fun vs H Q _ => ∃ (v : V) (x : Ru) (r : Str), vs = [v, .str r] ∧ rRule K x v H ∧ x.2.length = 4 ∧ r ∈ results ∧ Q (actOf x r) H
theorem ok_Rule_action_for (T : Txt K mg) : FnOk P w K mg base CX0 1 (a_Rule_action_for K) (fdOf K (a_Rule_action_for K)) ["self", "result"] (sp_action_for K) := by
  refine (f_Rule_action_for T).ok sc_Rule_action_for (fun vs H Q E h => ?_) (fun cdv A outer s H vs Q E hr h => ?_)
  · obtain ⟨v, x, r, rfl, _⟩ := h
    rfl
  · obtain ⟨v, x, r, rfl, ⟨a, dx, t, rfl, h1, ht⟩, hl, hm, k⟩ := h
    refine ⟨_, (pss_one (ps_ret (pe_ix ix_seq (pe_fld (pv 0) rfl) (pe_bm PySem.F.plainAttrs_tuple PySem.F.slot_tuple_index PySem.F.type_tuple_index mt_tup_index (pe_gr (by rfl) (g_RESULTS T)) (pa_cons (pv 1) pa_nil)) (fun _ _ => rfl)))), ?_⟩
    refine ⟨_, rfl, a, _, dx, _, _, rfl, h1, cl_Rule T, na_Rule_acts T, rfl, ?_⟩
    have hix : results[ixRes r]? = some r ∧ (∀ m, m < ixRes r → results[m]? ≠ some r) ∧ ixRes r < 4 := by
      simp only [results, List.mem_cons, List.not_mem_nil, or_false] at hm
      rcases hm with rfl | rfl | rfl | rfl <;> decide +kernel
    refine ⟨.inr (.inl ⟨rfl, td_RESULTS T⟩), _, rfl, _, results, r, ixRes r, rfl, rfl, t_RESULTS T _, hix.1, hix.2.1, ?_⟩
    refine .inr (.inl ⟨t, x.2, _, _, rfl, rfl, ht, ?_, k⟩)
    have h4 : ixRes r < x.2.length := by rw [hl]; exact hix.2.2
    show atI x.2 ((ixRes r : Nat) : Int) = some (x.2.getD (ixRes r) .non)
    refine atI_nat ?_
    rw [List.getD_eq_getElem?_getD, List.getElem?_eq_getElem h4]
    rfl
end
end Lg
/-! D4 -/
set_option maxHeartbeats 4000000
namespace Lg
open PySem L2
section
variable {P : Program} {w : World} {K : PySem.W.Frag} {mg : Str → Option Value} {base : Heap}
def mkDat : Mk0 → PyData
  | .none => .tuple [.str "none", .none]
  | .good => .tuple [.str "good", .none]
  | .bad n => .tuple [.str "bad", .int n]
theorem mk_dp {H : Hp} {m : Mk0} {v : V} (h : rMark K m v H) : Dp K H v (mkDat m) := by
  obtain ⟨p, rfl, h⟩ := h
  cases m with
  | none => exact .tup h (.cons (.str _) (.cons .non .nil))
  | good => exact .tup h (.cons (.str _) (.cons .non .nil))
  | bad n => exact .tup h (.cons (.str _) (.cons (.int _) .nil))
theorem mk_eq (m k : Mk0) : PyData.eqv (mkDat m) (mkDat k) = decide (m = k) := by
  have e1 : (("bad" : Str) == ("none" : Str)) = false := by decide +kernel
  have e2 : (("bad" : Str) == ("good" : Str)) = false := by decide +kernel
  have e3 : (("good" : Str) == ("none" : Str)) = false := by decide +kernel
  have e4 : (("none" : Str) == ("bad" : Str)) = false := by decide +kernel
  have e5 : (("good" : Str) == ("bad" : Str)) = false := by decide +kernel
  have e6 : (("none" : Str) == ("good" : Str)) = false := by decide +kernel
  have e7 : ∀ i j : Int, (i == j) = decide (i = j) := fun i j => by rw [Bool.eq_iff_iff]; simp
  cases m <;> cases k <;> simp [mkDat, PyData.eqv, PyData.eqvAll, e1, e2, e3, e4, e5, e6, e7]
theorem mk_sh (m : Mk0) : SeqAt.shaped (mkDat m) = true := by
  have e1 : PyData.strOk "bad" = true := by decide +kernel
  have e2 : PyData.strOk "good" = true := by decide +kernel
  have e3 : PyData.strOk "none" = true := by decide +kernel
  cases m <;> simp [mkDat, SeqAt.shaped, PyData.canLay0, PyData.canLayAll0, PyData.depth, PyData.depthAll, e1, e2, e3]
theorem sEq (x y : Str) : (y == x) = decide (V.str x = V.str y) := by
  rw [Bool.eq_iff_iff, beq_iff_eq, decide_eq_true_iff, V.str.injEq]
  exact eq_comm
theorem in_two {v : V} {a b : String} (h : okAct v = true) : inV v [.str a, .str b] = (isW v a || isW v b) := by
  cases v with
  | str x =>
    show ((PySem.Str.ofString a == x) || ((PySem.Str.ofString b == x) || false)) = _
    rw [sEq, sEq, Bool.or_false]
    rfl
  | int i => rfl
  | _ => cases h
theorem flat_act {v : V} (h : okAct v = true) : flatV v = true := by
  cases v <;> first | rfl | cases h
theorem scal_act {v : V} {x : Str} (h : okAct v = true) : scal v (.str x) = true := by
  cases v <;> first | rfl | cases h
def sp_marked (K : PySem.W.Frag) : Sp := fun vs H Q _ => ∃ (B : Hp) (act mv bv : V) (m b : Mk0) (n : Int), vs = [act, mv, bv, .int n] ∧ okAct act = true ∧ rMark K m mv B ∧ rMark K b bv B ∧ Same B H ∧ Ret B H (rMark K (markd act m b n)) Q
theorem ok_marked (T : Txt K mg) : FnOk P w K mg base CX0 1 (a_marked K) (fdOf K (a_marked K)) ["action", "mark", "begin", "number"] (sp_marked K) := by
  refine (f_marked T).ok sc_marked (fun vs H Q E h => ?_) (fun cdv A outer s H vs Q E hr h => ?_)
  · obtain ⟨B, act, mv, bv, m, b, n, rfl, _⟩ := h
    rfl
  · obtain ⟨B, act, mv, bv, m, b, n, rfl, ha, hm, hb, sm, k⟩ := h
    refine ⟨_, (pss_cons (ps_if (pt_cmpR op_in_seq (pv 0) (pe_tup (pa_cons (pe_gs (by rfl) (g_OK T)) (pa_cons (pe_gs (by rfl) (g_DONE T)) pa_nil))) (by rfl)) (pss_one (ps_ret (pe_ifExp (pt_cmpR (op_eqD hr.units) (pv 1) (pe_gr (by rfl) (g_NONE T)) (nomark _)) (pe_gr (by rfl) (g_GOOD T)) (pv 1)))) pss_nil) (pss_cons (ps_if (pt_cmpR op_in_seq (pv 0) (pe_tup (pa_cons (pe_gs (by rfl) (g_BAD T)) (pa_cons (pe_gs (by rfl) (g_DIE T)) pa_nil))) (by rfl)) (pss_one (ps_ret (pe_ifExp (pt_cmpR op_eq (pe_ix ix_seq (pv 1) pe_int (fun _ _ => rfl)) (pe_gs (by rfl) (g_BAD T)) (nomark _)) (pv 1) (pe_tup (pa_cons (pe_gs (by rfl) (g_BAD T)) (pa_cons (pv 3) pa_nil)))))) pss_nil) (pss_one (ps_ret (pe_ifExp (pt_cmpR op_eq (pv 0) (pe_gs (by rfl) (g_RESET T)) (nomark _)) (pv 2) (pv 1)))))), ?_⟩
    refine ⟨_, rfl, line_le (show 2 ≤ 1000000 by decide), fun p hp => ⟨_, _, rfl, .inr (.inl (.inl upd_same)), flat_act ha, rfl, ?_⟩⟩
    rw [in_two ha]
    have g1 : Gr M0 B H B (upd H p (.tup [.str "ok", .str "done"])) := Gr.hid sm hp
    have hm1 := mono_mark m _ _ _ (sm.trans g1.same) hm
    unfold markd at k
    cases c1 : (isW act "ok" || isW act "done") with
    | true =>
      rw [if_pos c1] at k
      refine ⟨true, rfl, iteT ⟨_, rfl, mkDat m, mkDat .none, mk_dp hm1, mk_dp ⟨_, rfl, t_NONE T _⟩, mk_sh _, mk_sh _, ?_⟩⟩
      rw [mk_eq]
      cases m with
      | none => exact ⟨true, rfl, iteT (k _ _ _ g1 ⟨_, rfl, t_GOOD T _⟩)⟩
      | good => exact ⟨false, rfl, iteF ⟨_, rfl, k _ _ _ g1 hm⟩⟩
      | bad j => exact ⟨false, rfl, iteF ⟨_, rfl, k _ _ _ g1 hm⟩⟩
    | false =>
      rw [if_neg (by rw [c1]; decide)] at k
      refine ⟨false, rfl, iteF ⟨_, rfl, line_le (show 2 ≤ 1000000 by decide), fun q hq => ⟨_, _, rfl, .inr (.inl (.inl upd_same)), flat_act ha, rfl, ?_⟩⟩⟩
      rw [in_two ha]
      have g2 := g1.then0 (Gr.hid (o := .tup [.str "bad", .str "die"]) g1.sub hq)
      have hm2 := mono_mark m _ _ _ (sm.trans g2.same) hm
      cases c2 : (isW act "bad" || isW act "die") with
      | true =>
        rw [if_pos c2] at k
        refine ⟨true, rfl, iteT ?_⟩
        obtain ⟨p2, rfl, hp2⟩ := hm
        obtain ⟨p3, e3, hp3⟩ := hm2
        cases e3
        cases m with
        | none =>
          refine ⟨_, rfl, .inr (.inl ⟨p2, _, 0, _, rfl, rfl, hp3, rfl, rfl, ?_⟩)⟩
          refine ⟨false, rfl, iteF ⟨_, rfl, line_le (show 2 ≤ 1000000 by decide), fun r hr => ?_⟩⟩
          exact k _ _ _ (g2.then0 (Gr.lay g2.sub hr)) ⟨r, rfl, .inl (.inl upd_same)⟩
        | good =>
          refine ⟨_, rfl, .inr (.inl ⟨p2, _, 0, _, rfl, rfl, hp3, rfl, rfl, ?_⟩)⟩
          refine ⟨false, rfl, iteF ⟨_, rfl, line_le (show 2 ≤ 1000000 by decide), fun r hr => ?_⟩⟩
          exact k _ _ _ (g2.then0 (Gr.lay g2.sub hr)) ⟨r, rfl, .inl (.inl upd_same)⟩
        | bad j =>
          refine ⟨_, rfl, .inr (.inl ⟨p2, _, 0, _, rfl, rfl, hp3, rfl, rfl, ?_⟩)⟩
          exact ⟨true, rfl, iteT ⟨_, rfl, k _ _ _ g2 ⟨p2, rfl, hp2⟩⟩⟩
      | false =>
        rw [if_neg (by rw [c2]; decide)] at k
        refine ⟨false, rfl, iteF ⟨_, rfl, scal_act ha, ?_⟩⟩
        cases c3 : isW act "reset" with
        | true =>
          rw [if_pos c3] at k
          exact ⟨true, congrArg V.bl c3, iteT ⟨_, rfl, k _ _ _ g2 hb⟩⟩
        | false =>
          rw [if_neg (by rw [c3]; decide)] at k
          exact ⟨false, congrArg V.bl c3, iteF ⟨_, rfl, k _ _ _ g2 hm⟩⟩
def sp_steps_of (K : PySem.W.Frag) : Sp := fun vs H Q _ => ∃ (B : Hp) (v : V) (e : En), vs = [v] ∧ rEn K e v B ∧ Same B H ∧ Ret B H (RTup K (e.rules.map (rRule K))) Q
theorem ok_steps_of (T : Txt K mg) : FnOk P w K mg base CX0 1 (a_steps_of K) (fdOf K (a_steps_of K)) ["entry"] (sp_steps_of K) := by
  refine (f_steps_of T).ok sc_steps_of (fun vs H Q E h => ?_) (fun cdv A outer s H vs Q E hr h => ?_)
  · obtain ⟨B, v, e, rfl, _⟩ := h
    rfl
  · obtain ⟨B, v, e, rfl, he, sm, k⟩ := h
    refine ⟨_, (pss_one (ps_ret (pe_ifExp (pt_val (pe_callB call_isi (by rfl) (n_isinstance T) (by decide +kernel) (pa_cons (pv 0) (pa_cons (pe_gr (by rfl) (g_Stack T)) pa_nil)))) (pe_fld (pv 0) rfl) (pe_tup (pa_cons (pv 0) pa_nil))))), ?_⟩
    cases e with
    | r x =>
      obtain ⟨a, dx, t, rfl, h1, ht⟩ := he
      refine ⟨_, rfl, _, .ref _, _, _, false, rfl, .own _, .base (.ins (sm _ _ h1) (cl_Rule T) (ic_Rule T) (ig_ T) (it_ T) (im_Rule T)), io_Rule_Stack T, ⟨false, rfl, iteF ?_⟩⟩
      refine ⟨_, rfl, line_le (show 1 ≤ 1000000 by decide), fun p hp => ?_⟩
      exact k _ _ _ (Gr.lay sm hp) ⟨p, [.ref a], rfl, .inl (.inl upd_same), (mono_rule x) _ _ _ (Gr.lay (M := M0) sm hp).base ⟨a, dx, t, rfl, h1, ht⟩, trivial⟩
    | s xs =>
      obtain ⟨a, dx, p, st, n, vs, ws, rfl, h1, h2, h3, h4, h5, h6⟩ := he
      refine ⟨_, rfl, _, .ref _, _, _, true, rfl, .own _, .base (.ins (sm _ _ h1) (cl_Stack T) (ic_Stack T) (ig_ T) (it_ T) (im_Stack T)), io_Stack_Stack T, ⟨true, rfl, iteT ?_⟩⟩
      exact ⟨_, rfl, a, _, dx, _, _, rfl, sm _ _ h1, cl_Stack T, na_Stack_steps T, rfl, k _ _ _ (Gr.refl sm) ⟨st, ws, rfl, h4, h5⟩⟩
/-- where each entry begins -/
def firstsL : List En → Int → List Int
  | [], _ => []
  | e :: es, i => i :: firstsL es (i + e.rules.length)
structure OkS (es : List En) : Prop where
  len : es.length ≤ 12
  rl : (rulesOf es).length ≤ 12
  ml : (modsOf es).length ≤ 6
  ru : ∀ x ∈ rulesOf es, okRu x = true
abbrev RIn (js : List Int) : Rp := fun v B => ∃ p, v = .ref p ∧ B p = some (.lst (js.map V.int))
theorem rulesOf_append (es fs : List En) : rulesOf (es ++ fs) = rulesOf es ++ rulesOf fs := List.flatMap_append
theorem firstsL_append : ∀ (es fs : List En) (i : Int), firstsL (es ++ fs) i = firstsL es i ++ firstsL fs (i + (rulesOf es).length)
  | [], fs, i => by simp [rulesOf, firstsL]
  | e :: es, fs, i => by
    show i :: firstsL (es ++ fs) _ = i :: (firstsL es _ ++ _)
    rw [firstsL_append es fs]
    have : (rulesOf (e :: es)).length = e.rules.length + (rulesOf es).length := by simp [rulesOf]
    rw [this]
    simp [Int.add_assoc]
theorem firstsL_len : ∀ (es : List En) (i : Int), (firstsL es i).length = es.length
  | [], _ => rfl
  | e :: es, i => congrArg Nat.succ (firstsL_len es _)
def sp_firsts_of (K : PySem.W.Frag) : Sp := fun vs H Q _ => ∃ (B : Hp) (v : V) (i : Int) (es : List En) (rs : List Ru) (ms : List Str) (d : Int), vs = [v, .int i] ∧ rStackOf K (es.map (rEn K)) rs ms d v B ∧ es.length ≤ 12 ∧ Same B H ∧ Ret B H (RIn (firstsL es i)) Q
theorem ok_firsts_of (T : Txt K mg) : FnOk P w K mg base CX0 2 (a_firsts_of K) (fdOf K (a_firsts_of K)) ["stack", "first"] (sp_firsts_of K) := by
  refine (f_firsts_of T).ok sc_firsts_of (fun vs H Q E h => ?_) (fun cdv A outer s H vs Q E hr h => ?_)
  · obtain ⟨B, v, i, es, rs, ms, d, rfl, _⟩ := h
    rfl
  · obtain ⟨B, v, i, es, rs, ms, d, rfl, hv, hl, sm, k⟩ := h
    refine ⟨_, (pss_cons (ps_set (i := 2) sc_firsts_of.nd rfl (Or.inl rfl) (pe_lst pa_nil)) (pss_cons (ps_for PassesOwn.never rfl (pi_tup (pe_fld (pv 0) rfl)) (pg_name (i := 3) sc_firsts_of.nd rfl (Or.inl rfl)) (pss_cons (ps_expr (pe_bm PySem.F.plainAttrs_list PySem.F.slot_list_append PySem.F.type_list_append mt_append (pv 2) (pa_cons (pv 1) pa_nil))) (pss_one (ps_aug (i := 1) sc_firsts_of.nd rfl (Or.inl rfl) (pe_callB call_len_seq (by rfl) (n_len T) (by decide +kernel) (pa_cons (pe_call (ok_steps_of T) (hr.mono (by decide)) (by rfl) (g_steps_of T) (f_steps_of T).kp (b_steps_of T) .nil pass0 (pa_cons (pv 3) pa_nil)) pa_nil)) ip_add)))) (pss_one (ps_ret (pv 2))))), ?_⟩
    obtain ⟨a, dx, p, st, n, ws, us, rfl, h1, h2, h3, h4, h5, h6⟩ := hv
    refine ⟨line_le (show 0 ≤ 1000000 by decide), fun D hD => ?_⟩
    have hBD := sm.free hD
    have g0 : Gr M0 B H B (upd H D (.lst [])) := Gr.hid sm hD
    refine ⟨_, rfl, a, _, dx, _, _, rfl, g0.sub _ _ h1, cl_Stack T, na_Stack_parts T, rfl, p, rfl, ⟨ws, sqT_same g0.sub h2⟩, ?_⟩
    have hwl : ws.length = es.length := by have := h3.length; simpa using this.symm
    refine for_it (walk_tup (xs := ws)) (fun j σ H' => ∃ B', Gr M0 B H B' H' ∧ B' D = none ∧ H' D = some (.lst ((firstsL (es.take j) i).map V.int)) ∧ ∃ x, σ = [some (.ref a), some (.int (i + (rulesOf (es.take j)).length)), some (.ref D), x]) ?_ (fun j σ H' hj pv => ?_) (fun j x σ H' H2 hj pv y => ?_) (fun σ H' pv => ?_)
    · exact ⟨B, g0, hBD, upd_same, none, by simp [rulesOf]; rfl⟩
    · obtain ⟨B', g, _⟩ := pv
      exact sqT_B g h2
    · obtain ⟨B', g, hB', hD', z, rfl⟩ := pv
      obtain ⟨rfl, hx⟩ := y
      obtain ⟨R, hR, hxR⟩ := h3.at_ hx
      obtain ⟨e, he, rfl⟩ : ∃ e, es[j]? = some e ∧ rEn K e = R := by
        rw [List.getElem?_map] at hR
        cases q : es[j]? with
        | none => rw [q] at hR; cases hR
        | some e => rw [q] at hR; cases hR; exact ⟨e, rfl, rfl⟩
      have ht : es.take (j + 1) = es.take j ++ [e] := by rw [List.take_succ, he]; rfl
      refine ⟨_, rfl, .inl ⟨rfl, _, SqL.of hD'⟩, ⟨_, rfl, D, _, _, rfl, rfl, hD', ?_, ?_⟩⟩
      · rw [List.length_map, firstsL_len]
        exact line_lt (by have := List.length_take_le j es; omega)
      have g1 := Gr.mut (o := .lst ((firstsL (es.take j) i).map V.int ++ [V.int (i + (rulesOf (es.take j)).length)])) g hB' (.inl hD)
      refine ⟨_, rfl, _, rfl, B', x, e, rfl, mono_en e _ _ _ g.base hxR, g1.sub, fun v2 B2 H2 g2 hv2 => ?_⟩
      obtain ⟨q, ys, rfl, hq, hys⟩ := hv2
      refine ⟨q, ys, rfl, .inr (sqT_same g2.sub hq), _, _, rfl, rfl, B2, g1.then0 g2, g2.new D _ hB' upd_same, ?_, some x, ?_⟩
      · rw [g2.keep D _ (fun z => z) upd_same, ht, firstsL_append, List.map_append]
        rfl
      · have := hys.length
        rw [List.length_map] at this
        rw [ht, rulesOf_append, ← this, List.length_append, show rulesOf [e] = e.rules by simp [rulesOf], Int.natCast_add, ← Int.add_assoc]
        rfl
    · obtain ⟨B', g, hB', hD', z, rfl⟩ := pv
      rw [hwl, List.take_length] at hD'
      refine ⟨_, rfl, k _ _ _ (g.tell hD hD' hB') ⟨D, rfl, upd_same⟩⟩
end
end Lg
/-! D5 -/
set_option maxHeartbeats 4000000
namespace Lg
open PySem L2
section
variable {P : Program} {w : World} {K : PySem.W.Frag} {mg : Str → Option Value} {base : Heap}
def isS : En → Bool
  | .r _ => false
  | .s _ => true
def clsE (K : PySem.W.Frag) : En → Addr
  | .r _ => c_Rule K
  | .s _ => c_Stack K
theorem en_ty (T : Txt K mg) {e : En} {v : V} {B : Hp} (h : rEn K e v B) : ∀ H', Same B H' → TyX K H' v (.ref (clsE K e)) := fun H' s => by
  cases e with
  | r x =>
    obtain ⟨a, dx, t, rfl, h1, ht⟩ := h
    exact .base (.ins (s _ _ h1) (cl_Rule T) (ic_Rule T) (ig_ T) (it_ T) (im_Rule T))
  | s xs =>
    obtain ⟨a, dx, p, st, n, vs, ws, rfl, h1, h2, h3, h4, h5, h6⟩ := h
    exact .base (.ins (s _ _ h1) (cl_Stack T) (ic_Stack T) (ig_ T) (it_ T) (im_Stack T))
theorem en_S (T : Txt K mg) (e : En) : PySem.W.kitOne K (.ref (clsE K e)) (.ref (c_Stack K)) = some (isS e) := by
  cases e
  · exact io_Rule_Stack T
  · exact io_Stack_Stack T
theorem en_R (T : Txt K mg) (e : En) : PySem.W.kitOne K (.ref (clsE K e)) (.ref (c_Rule K)) = some (!isS e) := by
  cases e
  · exact io_Rule_Rule T
  · exact io_Stack_Rule T
theorem catA_rep {H B : Hp} {a b : Addr} {xs ys : List V} {Q : VK} (sm : Same B H) (ha : SqT K B a xs) (hb : SqT K B b ys) (hz : xs.length + ys.length ≤ 1000000) (k : ∀ r B' H', Gr M0 B H B' H' → SqT K B' r (xs ++ ys) → Q (.ref r) H') : rCatA K (.ref a) (.ref b) H Q := by
  refine ⟨a, b, xs, ys, rfl, rfl, sqT_same sm ha, sqT_same sm hb, line_le hz, fun e => ?_, fun _ e => ?_, fun _ _ p hp => ?_⟩
  · exact k b B H (Gr.refl sm) (by rw [e]; exact hb)
  · exact k a B H (Gr.refl sm) (by rw [e, List.append_nil]; exact ha)
  · exact k p _ _ (Gr.lay sm hp) (.inl (.inl upd_same))
theorem tIf_same {t : TT} {ta tb : TE} {σ : L2.St} {H : Hp} {Q : VK} {b : Bool} {v : V} (ht : ∀ Q : Bool → Hp → Prop, Q b H → t σ H Q) (h1 : b = true → ∀ Q : VK, Q v H → ta σ H Q) (h2 : b = false → ∀ Q : VK, Q v H → tb σ H Q) (q : Q v H) : tIf t ta tb σ H Q := by
  refine ht _ ?_
  cases b with
  | true => exact iteT (h1 rfl Q q)
  | false => exact iteF (h2 rfl Q q)
theorem blF {p : Prop} [Decidable p] (h : ¬ p) : V.bl (decide p) = V.bl false := by rw [decide_eq_false h]
theorem blT {p : Prop} [Decidable p] (h : p) : V.bl (decide p) = V.bl true := by rw [decide_eq_true h]
theorem ifS_f {c : TT} {t u : TS} {D : Ends} {σ : L2.St} {H : Hp} (h : ∀ Q : Bool → Hp → Prop, Q false H → c σ H Q) (k : u D σ H) : tIfS c t u D σ H := h _ (iteF k)
theorem rulesOf_take {es : List En} {i : Nat} {e : En} (h : es[i]? = some e) : rulesOf (es.take (i + 1)) = rulesOf (es.take i) ++ e.rules := by
  rw [List.take_succ, h, rulesOf_append]
  simp [rulesOf]
theorem depthOf_take {es : List En} {i : Nat} {e : En} (h : es[i]? = some e) : depthOf (es.take (i + 1)) = if depthE e > depthOf (es.take i) then depthE e else depthOf (es.take i) := by
  rw [List.take_succ, h]
  unfold depthOf
  rw [Option.toList_some, List.foldl_append]
  rfl
theorem depthOf_le : ∀ es : List En, 1 ≤ depthOf es ∧ depthOf es ≤ 2 := by
  have h : ∀ (es : List En) (d : Int), 1 ≤ d → d ≤ 2 → 1 ≤ es.foldl (fun d e => if depthE e > d then depthE e else d) d ∧ es.foldl (fun d e => if depthE e > d then depthE e else d) d ≤ 2 := by
    intro es
    induction es with
    | nil => intro d h1 h2; exact ⟨h1, h2⟩
    | cons e es ih =>
      intro d h1 h2
      rw [List.foldl_cons]
      have : 1 ≤ (if depthE e > d then depthE e else d) ∧ (if depthE e > d then depthE e else d) ≤ 2 := by
        have hd : 1 ≤ depthE e ∧ depthE e ≤ 2 := by cases e <;> simp [depthE]
        by_cases c : depthE e > d
        · rw [if_pos c]; exact hd
        · rw [if_neg c]; exact ⟨h1, h2⟩
      exact ih _ this.1 this.2
  exact fun es => h es 1 (by decide) (by decide)
theorem rulesOf_take_le (es : List En) (i : Nat) : (rulesOf (es.take i)).length ≤ (rulesOf es).length := by
  conv => rhs; rw [← List.take_append_drop i es, rulesOf_append, List.length_append]
  omega
theorem modsOf_take_le (es : List En) (i : Nat) : (modsOf (es.take i)).length ≤ (modsOf es).length := by
  refine nodup_le _ _ (nodup_sortS _) fun x hx => mem_sortS.mpr ?_
  have h1 := mem_sortS.mp hx
  obtain ⟨r, hr, e⟩ := List.mem_map.mp h1
  refine List.mem_map.mpr ⟨r, ?_, e⟩
  rw [← List.take_append_drop i es, rulesOf_append]
  exact List.mem_append_left _ hr
def insStack (K : PySem.W.Frag) (dx p s n : Addr) (d : Int) : HO := .ins (c_Stack K) dx [("parts", .ref p), ("steps", .ref s), ("names", .ref n), ("depth", .int d)]
/-- with its parts at hand -/
def sp_Stack_init1 (K : PySem.W.Frag) : Sp := fun vs H Q _ => ∃ (B : Hp) (a dx p : Addr) (rest : List V) (es : List En), vs = [.ref a, .ref p] ∧ B a = none ∧ H a = some (.ins (c_Stack K) dx []) ∧ SqT K B p rest ∧ PairR (es.map (rEn K)) rest B ∧ OkS es ∧ Same B H ∧
  ∀ B' H' s n ws, Gr (fun z => z = a) B H B' H' → H' a = some (insStack K dx p s n (depthOf es)) → SqT K B' s ws → PairR ((rulesOf es).map (rRule K)) ws B' → SqT K B' n ((modsOf es).map V.str) → Q .non H'
theorem bd_Stack_init (T : Txt K mg) : ∃ (oc : Value) (od : Option Addr) (kV doc pm : Value) (an : Option Addr) (cdv ct : Value) (osl : Array (Option Value)),
    K.lookup (a_Stack_init K) = some ⟨oc, od, .func (PySem.W.fnOf "__init__" "Stack.__init__" (defArgs s_Stack_init) (defBody s_Stack_init) (defScope s_Stack_init) .none kV doc pm an cdv ct), osl⟩ ∧ PySem.W.codeIn K cdv "Stack.__init__" = true ∧
    ∀ us rest : List Value, us.length = ["self"].length → bindArgs (PySem.W.fnOf "__init__" "Stack.__init__" (defArgs s_Stack_init) (defBody s_Stack_init) (defScope s_Stack_init) .none kV doc pm an cdv ct) ⟨us ++ rest, []⟩ = (newTuple rest >>= fun t => pure ((["self"] : List Str).zip us ++ ([("entries", t)] : List (Str × Value)))) := by
  obtain ⟨oc, od, kV, doc, pm, an, cdv, ct, osl, e, lk, hcd⟩ := (f_Stack_init T).ex
  rw [e] at lk
  exact ⟨oc, od, kV, doc, pm, an, cdv, ct, osl, lk, hcd, StX.bind_star1 (p1 := "self") (pv := "entries") (B := fun l => bindArgs (PySem.W.fnOf "__init__" "Stack.__init__" (defArgs s_Stack_init) (defBody s_Stack_init) (defScope s_Stack_init) .none kV doc pm an cdv ct) ⟨l, []⟩) (fun _ => rfl) (fun _ _ _ => rfl)⟩
theorem run_Stack_init (T : Txt K mg) {cdv : Value} {A : Around} {outer : List Env} {s : Shared} {H : Hp} {vs : List V} {Q : VK} {E : XK} (hr : Room 1 (A.deeper (PyProof.Rows.envOfC "Stack.__init__" (defScope s_Stack_init) s.heap.objs.size (a_Stack_init K) cdv))) (h : sp_Stack_init1 K vs H Q E) :
    ∃ t, PSs (cxOf CX0 P w K mg base N_Stack_init "Stack.__init__" (defScope s_Stack_init) (a_Stack_init K) cdv A outer s H E).nox (defBody s_Stack_init) t ∧ t { nx := fun _ H' => Q .non H', rt := Q } (L2.start N_Stack_init vs) H := by
  obtain ⟨B, a, dx, p, rest, es, rfl, hBa, hHa, hp, hP, ok, sm, k⟩ := h
  refine ⟨_, (pss_cons (ps_fld (pv 0) (pv 1) rfl) (pss_cons (ps_fld (pv 0) (pe_tup pa_nil) rfl) (pss_cons (ps_fld (pv 0) (pe_tup pa_nil) rfl) (pss_cons (ps_fld (pv 0) pe_int rfl) (pss_one (ps_for PassesOwn.never rfl (pi_enumT (by rfl) (n_enumerate T) (pa_cons (pv 1) pa_nil)) (pg_tup rfl (pgs_cons (pg_name (i := 2) sc_Stack_init.nd rfl (Or.inl rfl)) (pgs_cons (pg_name (i := 3) sc_Stack_init.nd rfl (Or.inl rfl)) pgs_nil))) (pss_cons (ps_set (i := 4) sc_Stack_init.nd rfl (Or.inl rfl) (pe_callB call_isi (by rfl) (n_isinstance T) (by decide +kernel) (pa_cons (pv 3) (pa_cons (pe_gr (by rfl) (g_Stack T)) pa_nil)))) (pss_cons (ps_if (PW.pt (pw_or (pt_cmpR op_eq (pv 2) (pe_gi (by rfl) (g_MOST_ENTRIES T)) (nomark _)) (pw_or1 (PW.pt (pw_and (pt_not (pt_val (pv 4))) (pw_and1 (pt_not (pt_val (pe_callB call_isi (by rfl) (n_isinstance T) (by decide +kernel) (pa_cons (pv 3) (pa_cons (pe_gr (by rfl) (g_Rule T)) pa_nil))))))))))) (pss_one ps_never) pss_nil) (pss_cons (ps_fld (pv 0) (pe_op op_addU (pe_fld (pv 0) rfl) (pe_call (ok_steps_of T) (hr.mono (by decide)) (by rfl) (g_steps_of T) (f_steps_of T).kp (b_steps_of T) .nil pass0 (pa_cons (pv 3) pa_nil))) rfl) (pss_cons (ps_fld (pv 0) (pe_callTy call_tuple_of (by rfl) (n_tuple T) (by decide +kernel) (pa_cons (pe_callB (cr_sortSet rfl) (by rfl) (n_sorted T) (by decide +kernel) (pa_cons (pe_callTy (cr_setS rfl) (by rfl) (n_set T) (by decide +kernel) (pa_cons (pe_lc (own := [("rule", 5)]) (by rfl) sc_Stack_init.nd (pi_tup (pe_fld (pv 0) rfl)) (blkOk_by (own := [("rule", 5)]) (N := N_Stack_init) (sc := defScope s_Stack_init) (by decide +kernel)) (fun _ _ _ _ _ => (pg_name (i := 5) sc_Stack_init.nd rfl (Or.inl rfl))) (fun _ _ _ _ _ => pts_nil) (fun _ _ _ _ _ => (pe_fldB K (pv 5) rfl))) pa_nil)) pa_nil)) pa_nil)) rfl) (pss_cons (ps_fld (pv 0) (pe_callB (call_max2 rfl) (by rfl) (n_max T) (by decide +kernel) (pa_cons (pe_fld (pv 0) rfl) (pa_cons (pe_ifExp (pt_val (pv 4)) (pe_op op_addU (pe_fld (pv 3) rfl) pe_int) pe_int) pa_nil))) rfl) (pss_one (ps_if (PW.pt (pw_or (pt_cmpR op_gt (pe_fld (pv 0) rfl) (pe_gi (by rfl) (g_MOST_DEPTH T)) (nomark _)) (pw_or (pt_cmpR op_gt (pe_callB call_len_seq (by rfl) (n_len T) (by decide +kernel) (pa_cons (pe_fld (pv 0) rfl) pa_nil)) (pe_gi (by rfl) (g_MOST_RULES T)) (nomark _)) (pw_or1 (pt_cmpR op_gt (pe_callB call_len_seq (by rfl) (n_len T) (by decide +kernel) (pa_cons (pe_fld (pv 0) rfl) pa_nil)) (pe_gi (by rfl) (g_MOST_MODULES T)) (nomark _)))))) (pss_one ps_never) pss_nil))))))))))))), ?_⟩
  have m0 : MOk (fun z => z = a) B H := fun z e => by
    cases e
    exact ⟨hBa, _, hHa⟩
  refine ⟨_, rfl, _, rfl, a, c_Stack K, dx, [], rfl, hHa, cl_Stack T, na_Stack_parts T, (show 0 < 1000 by decide), ?_⟩
  have g1 : Gr (fun z => z = a) B H B (upd H a (.ins (c_Stack K) dx [("parts", .ref p)])) := Gr.set sm hBa rfl
  refine ⟨line_le (show 0 ≤ 1000000 by decide), fun sA hsA => ⟨_, rfl, a, c_Stack K, dx, [("parts", .ref p)], rfl, ?_, cl_Stack T, na_Stack_steps T, (show 1 < 1000 by decide), ?_⟩⟩
  · rw [upd_ne (ne_of_none upd_same hsA)]
    exact upd_same
  have g2 := Gr.trans m0 g1 (Gr.lay (o := .tup []) g1.sub hsA)
  have g3 := Gr.set' (o := .ins (c_Stack K) dx [("parts", .ref p), ("steps", .ref sA)]) g2 (g2.new a _ hBa hHa) rfl
  refine ⟨line_le (show 0 ≤ 1000000 by decide), fun nA hnA => ⟨_, rfl, a, c_Stack K, dx, [("parts", .ref p), ("steps", .ref sA)], rfl, ?_, cl_Stack T, na_Stack_names T, (show 2 < 1000 by decide), ?_⟩⟩
  · rw [upd_ne (ne_of_none upd_same hnA)]
    exact upd_same
  have g4 := Gr.trans m0 g3 (Gr.lay (o := .tup []) g3.sub hnA)
  have g5 := Gr.set' (o := .ins (c_Stack K) dx [("parts", .ref p), ("steps", .ref sA), ("names", .ref nA)]) g4 (g4.new a _ hBa hHa) rfl
  refine ⟨_, rfl, a, c_Stack K, dx, [("parts", .ref p), ("steps", .ref sA), ("names", .ref nA)], rfl, upd_same, cl_Stack T, na_Stack_depth T, (show 3 < 1000 by decide), ?_⟩
  have g6 := Gr.set' (o := insStack K dx p sA nA 1) g5 (g5.new a _ hBa hHa) rfl
  have hle : rest.length = es.length := by have := hP.length; simpa using this.symm
  refine ⟨_, rfl, p, rest, rfl, sqT_B g6 hp, ?_⟩
  refine for_it (walk_enumT (xs := rest)) (fun i σ H' => ∃ B' s n ws x2 x3 x4, Gr (fun z => z = a) B H B' H' ∧ H' a = some (insStack K dx p s n (depthOf (es.take i))) ∧ SqT K B' s ws ∧ PairR ((rulesOf (es.take i)).map (rRule K)) ws B' ∧ SqT K B' n ((modsOf (es.take i)).map V.str) ∧
    σ = [some (.ref a), some (.ref p), x2, x3, x4, none]) ?_ (fun i σ H' hi pv => ?_) (fun i x σ H' H2 hi pv y => ?_) (fun σ H' pv => ?_)
  · refine ⟨_, sA, nA, [], _, _, _, g6, upd_same, .inl (.inl ?_), trivial, .inl (.inl upd_same), rfl⟩
    rw [upd_ne (ne_of_none (upd_same (H := B)) (g3.sub.free hnA))]
    exact upd_same
  · obtain ⟨B', s', n', ws, x2, x3, x4, g, _⟩ := pv
    exact sqT_B g hp
  · obtain ⟨B', s', n', ws, x2, x3, x4, g, ha, hs, hws, hn, rfl⟩ := pv
    obtain ⟨Tp, xi, xe, rfl, hTp, rfl, e1, hx⟩ := y
    cases e1
    obtain ⟨R, hR, hxR⟩ := hP.at_ hx
    obtain ⟨e, he, rfl⟩ : ∃ e, es[i]? = some e ∧ rEn K e = R := by
      rw [List.getElem?_map] at hR
      cases q : es[i]? with
      | none => rw [q] at hR; cases hR
      | some e => rw [q] at hR; cases hR; exact ⟨e, rfl, rfl⟩
    have hi12 : i < 12 := by
      have := ok.len
      omega
    have gA := Gr.trans m0 g (Gr.hid (o := .tup [.int (i : Nat), xe]) g.sub hTp)
    have hxB : rEn K e xe B' := mono_en e _ _ _ g.base hxR
    have hty := en_ty T hxB
    refine ⟨Tp, [.int (i : Nat), xe], rfl, .inl (.inl upd_same), rfl, _, _, rfl, _, _, rfl, rfl, ?_⟩
    refine ⟨_, rfl, _, .ref _, _, _, isS e, rfl, .own _, hty _ gA.sub, en_S T e, ?_⟩
    dsimp only [gName, tSeq]
    refine ifS_f (fun Qf q => ?_) ?_
    · refine ⟨_, rfl, rfl, false, ?_, iteF ?_⟩
      · rw [decide_eq_false]
        intro z
        injection z with z
        omega
      refine ⟨_, rfl, isS e, rfl, ?_⟩
      cases hb : isS e with
      | true => exact iteF q
      | false => exact iteT ⟨_, rfl, _, .ref _, _, _, true, rfl, .own _, hty _ gA.sub, (en_R T e).trans (by rw [hb]; rfl), true, rfl, q⟩
    have hAa : (upd H' Tp (.tup [.int (i : Nat), xe])) a = some (insStack K dx p s' n' (depthOf (es.take i))) := by rw [upd_ne (ne_of_none ha hTp)]; exact ha
    refine ⟨_, rfl, a, _, dx, _, _, rfl, hAa, cl_Stack T, na_Stack_steps T, rfl, _, rfl, B', xe, e, rfl, hxB, gA.sub, fun v B2 H2 g2 hv => ?_⟩
    obtain ⟨q, ys, rfl, hq, hys⟩ := hv
    have hl1 : ws.length = (rulesOf (es.take i)).length := by have := hws.length; rw [List.length_map] at this; exact this.symm
    have hl2 : ys.length = e.rules.length := by have := hys.length; rw [List.length_map] at this; exact this.symm
    have hrt := rulesOf_take he
    have hrl : (rulesOf (es.take (i + 1))).length ≤ 12 := Nat.le_trans (rulesOf_take_le es _) ok.rl
    have hrl' : ws.length + ys.length ≤ 12 := by rw [hl1, hl2, ← List.length_append, ← hrt]; exact hrl
    refine Or.inr (Or.inr (catA_rep g2.sub (sqT_same g2.base hs) hq (by omega) fun r B3 H3 g3 hr3 => ?_))
    have g03 := Gr.trans m0 gA (g2.up.trans (m0.go gA) g3.up)
    have hA3 : H3 a = some (insStack K dx p s' n' (depthOf (es.take i))) := g3.same _ _ (g2.same _ _ hAa)
    refine ⟨_, rfl, a, _, dx, _, rfl, hA3, cl_Stack T, na_Stack_steps T, (show 4 < 1000 by decide), ?_⟩
    have g04 := Gr.set' (o := insStack K dx p r n' (depthOf (es.take i))) g03 (g03.new a _ hBa hHa) rfl
    have hrs : PairR ((rulesOf (es.take (i + 1))).map (rRule K)) (ws ++ ys) B3 := by
      rw [hrt, List.map_append]
      exact ((hws.mono (g2.base.trans g3.base) (mem_map_mono mono_rule)).app (hys.mono g3.base (mem_map_mono mono_rule)))
    have hA4 : (upd H3 a (insStack K dx p r n' (depthOf (es.take i)))) a = some (insStack K dx p r n' (depthOf (es.take i))) := upd_same
    refine ⟨_, rfl, a, _, dx, _, _, rfl, hA4, cl_Stack T, na_Stack_steps T, rfl, r, rfl, ⟨_, sqT_same g04.sub hr3⟩, fun D hD => ?_⟩
    refine lc_dat (walk_tup (xs := ws ++ ys)) (M := M0) (B1 := B3) (rulesOf (es.take (i + 1))) (fun _ => true) (rRule K) (fun x => RV (.str x.1)) mono_rule (fun _ => mono_v _) hrs rfl g04.sub hD mok0 (by omega) (fun B H g => sqT_B g hr3)
      (fun d x B H hd hx g Ky Kn ky kn => ?_) (fun ls B5 H5 g5 h5 hp5 => ?_)
    · obtain ⟨ra, rdx, rt, rfl, hra, _⟩ := hx
      exact ⟨rfl, _, rfl, ra, _, rdx, _, _, rfl, g.sub _ _ hra, cl_Rule T, na_Rule_asks T, rfl, ky rfl _ B _ (Gr.refl g.sub) rfl⟩
    rw [filter_all] at hp5
    have e5 := PairR.of_consts (fun x : Ru => V.str x.1) hp5
    subst e5
    have hml : ((rulesOf (es.take (i + 1))).map (·.1)).length ≤ 4000 := by
      rw [List.length_map]
      omega
    refine ⟨D, (rulesOf (es.take (i + 1))).map (·.1), rfl, .inl (SqL.of (by rw [g5.sub _ _ h5, List.map_map]; rfl)), hml, fun p1 hp1 => ⟨p1, _, rfl, upd_same, hml, fun p2 hp2 => ⟨p2, _, rfl, .inl ⟨SqL.of upd_same, fun nt hnt => ?_⟩⟩⟩⟩
    have g6 := g5.then0 (Gr.hid (o := SetSO w p1 ((rulesOf (es.take (i + 1))).map (·.1))) g5.sub hp1)
    have g7 := g6.then0 (Gr.hid (o := .lst ((modsOf (es.take (i + 1))).map V.str)) g6.sub hp2)
    have g8 := g7.then0 (Gr.lay (o := .tup ((modsOf (es.take (i + 1))).map V.str)) g7.sub hnt)
    have hA8 := g8.same _ _ hA4
    refine ⟨_, rfl, a, _, dx, _, rfl, hA8, cl_Stack T, na_Stack_names T, (show 4 < 1000 by decide), ?_⟩
    have g08 := Gr.trans m0 g04 g8.up
    have g09 := Gr.set' (o := insStack K dx p r nt (depthOf (es.take i))) g08 (g08.new a _ hBa hHa) rfl
    have hxB9 := mono_en e _ _ _ (g2.base.trans (g3.base.trans g8.base)) hxB
    have hA9 : ∀ G : Hp, (upd G a (insStack K dx p r nt (depthOf (es.take i)))) a = some (insStack K dx p r nt (depthOf (es.take i))) := fun G => upd_same
    refine ⟨_, rfl, a, _, dx, _, _, rfl, hA9 _, cl_Stack T, na_Stack_depth T, rfl, ?_⟩
    refine tIf_same (b := isS e) (v := .int (depthE e)) (fun Qf q => ⟨_, rfl, isS e, rfl, q⟩) (fun hb Qv q => ?_) (fun hb Qv q => ?_) ?_
    · cases e with
      | r x => cases hb
      | s xs =>
        obtain ⟨ea, edx, ep, est, en, evs, ews, rfl, h1, h2, h3, h4, h5, h6⟩ := hxB9
        exact ⟨_, rfl, ea, _, edx, _, _, rfl, g09.sub _ _ h1, cl_Stack T, na_Stack_depth T, rfl, .inl ⟨1, 1, rfl, rfl, q⟩⟩
    · cases e with
      | r x => exact q
      | s xs => cases hb
    refine ⟨_, _, rfl, _, rfl, a, _, dx, _, rfl, hA9 _, cl_Stack T, na_Stack_depth T, (show 4 < 1000 by decide), ?_⟩
    have hdt := depthOf_take he
    have g10 := Gr.set' (o := insStack K dx p r nt (depthOf (es.take (i + 1)))) g09 (g09.new a _ hBa hHa) rfl
    rw [← hdt]
    have hA10 : ∀ G : Hp, (upd G a (insStack K dx p r nt (depthOf (es.take (i + 1))))) a = some (insStack K dx p r nt (depthOf (es.take (i + 1)))) := fun G => upd_same
    have hr10 := sqT_same (g8.base.trans g09.sub) hr3
    have hd2 := depthOf_le (es.take (i + 1))
    have hm2 := Nat.le_trans (modsOf_take_le es (i + 1)) ok.ml
    refine ⟨_, rfl, a, _, dx, _, _, rfl, hA10 _, cl_Stack T, na_Stack_depth T, rfl, _, _, rfl, rfl, false, blF (by omega), iteF ?_⟩
    refine ⟨_, rfl, a, _, dx, _, _, rfl, hA10 _, cl_Stack T, na_Stack_steps T, rfl, r, _, rfl, .inr (sqT_same (g8.base.trans g10.sub) hr3), _, _, rfl, rfl, false, blF (by rw [List.length_append]; omega), iteF ?_⟩
    refine ⟨_, rfl, a, _, dx, _, _, rfl, hA10 _, cl_Stack T, na_Stack_names T, rfl, nt, _, rfl, .inr (sqT_same g10.sub (.inl (.inl upd_same))), _, _, rfl, rfl, false, blF (by rw [List.length_map]; omega), iteF ?_⟩
    exact ⟨_, r, nt, _, _, _, _, g10, hA10 _, sqT_same g8.base hr3, hrs.mono g8.base (mem_map_mono mono_rule), .inl (.inl upd_same), rfl⟩
  · obtain ⟨B', s', n', ws, x2, x3, x4, g, ha, hs, hws, hn, rfl⟩ := pv
    rw [hle, List.take_length] at ha hws hn
    exact k B' H' s' n' ws g ha hs hws hn
end
end Lg
/-! D6 -/
set_option maxHeartbeats 4000000
namespace Lg
open PySem L2
section
variable {P : Program} {w : World} {K : PySem.W.Frag} {mg : Str → Option Value} {base : Heap}
def sp_Stack_init (K : PySem.W.Frag) : Sp := fun vs H Q _ => ∃ (B : Hp) (a dx : Addr) (rest : List V) (es : List En), vs = .ref a :: rest ∧ B a = none ∧ H a = some (.ins (c_Stack K) dx []) ∧ PairR (es.map (rEn K)) rest B ∧ OkS es ∧ Same B H ∧
  ∀ B' H' p s n ws, Gr (fun z => z = a) B H B' H' → H' a = some (insStack K dx p s n (depthOf es)) → SqT K B' p rest → SqT K B' s ws → PairR ((rulesOf es).map (rRule K)) ws B' → SqT K B' n ((modsOf es).map V.str) → Q .non H'
theorem ok_Stack_init (T : Txt K mg) : FnR P w K mg base CX0 2 (a_Stack_init K) (sp_Stack_init K) := by
  obtain ⟨oc, od, kV, doc, pm, an, cdv, ct, osl, lk, hcd, hb⟩ := bd_Stack_init T
  have F := StX.fn_star (P := P) (w := w) (mg := mg) (base := base) (CX := CX0) (k := 1) (N := N_Stack_init) (ps := ["self"]) (pv := "entries") (sp := sp_Stack_init1 K) lk hcd sc_Stack_init StX.cxUp_none hb (fun A outer s H vs Q E hr h => by
    obtain ⟨t, h1, h2⟩ := run_Stack_init T hr h
    exact ⟨t, h1.nox, h2⟩)
  refine F.imp fun vs H Q E h => ?_
  obtain ⟨B, a, dx, rest, es, rfl, hB, hH, hP, ok, sm, k⟩ := h
  have hl : rest.length = es.length := by have := hP.length; simpa using this.symm
  refine ⟨[.ref a], rest, rfl, rfl, line_le (by have := ok.len; omega), fun p hp => ?_⟩
  have g := Gr.lay (M := fun z => z = a) (o := .tup rest) sm hp
  have hne := ne_of_none hH hp
  refine ⟨upd B p (.tup rest), a, dx, p, rest, es, rfl, by rw [upd_ne hne]; exact hB, by rw [upd_ne hne]; exact hH, .inl (.inl upd_same), hP.mono g.base (mem_map_mono mono_en), ok, g.sub, fun B' H' s n ws g' e h1 h2 h3 => ?_⟩
  exact k B' H' p s n ws (g.trans (fun z e => by cases e; exact ⟨hB, _, hH⟩) g') e (sqT_same g'.base (.inl (.inl upd_same))) h1 h2 h3
/-- Stack(..) -/
theorem mk_stack {H : Hp} {Q : Addr → Hp → Prop} {E : XK} {B : Hp} {rest : List V} {es : List En} (hP : PairR (es.map (rEn K)) rest B) (ok : OkS es) (sm : Same B H) (k : ∀ a B' H', Gr M0 B H B' H' → rStack K es (.ref a) B' → Q a H') :
    ∀ a dx, H a = none → H dx = none → dx ≠ a → sp_Stack_init K (.ref a :: rest) (upd (upd H dx (.own a)) a (.ins (c_Stack K) dx [])) (fun v H2 => v = .non ∧ Q a H2) E := by
  intro a dx h1 h2 hne
  have s1 : Same H (upd (upd H dx (.own a)) a (.ins (c_Stack K) dx [])) := fun p u e => by
    rw [upd_ne (ne_of_none e h1), upd_ne (ne_of_none e h2)]; exact e
  refine ⟨B, a, dx, rest, es, rfl, sm.free h1, upd_same, hP, ok, sm.trans s1, fun B' H' p s n ws g e hp hs hws hn => ⟨rfl, ?_⟩⟩
  obtain ⟨g1, g2⟩ := Gr.made sm h1 h2 hne g e
  have hs1 : Same B' (upd B' a (insStack K dx p s n (depthOf es))) := fun z u e => by
    have : B' a = none := g.new a _ (sm.free h1) upd_same
    rw [upd_ne (ne_of_none e this)]; exact e
  exact k _ _ _ g1 ⟨a, dx, p, s, n, rest, ws, rfl, g2, sqT_same hs1 hp, (hP.mono g1.base (mem_map_mono mono_en)), sqT_same hs1 hs, hws.mono hs1 (mem_map_mono mono_rule), sqT_same hs1 hn⟩
abbrev RStrs (K : PySem.W.Frag) (ms : List Str) : Rp := fun v B => ∃ p, v = .ref p ∧ SqT K B p (ms.map V.str)
theorem mono_strs (ms : List Str) : Mono (RStrs K ms) := fun _ _ _ s ⟨p, e, h⟩ => ⟨p, e, sqT_same s h⟩
def sp_Stack_modules (K : PySem.W.Frag) : Sp := fun vs H Q _ => ∃ (B : Hp) (v : V) (es : List En), vs = [v] ∧ rStack K es v B ∧ Same B H ∧ Ret B H (RStrs K (modsOf es)) Q
theorem ok_Stack_modules (T : Txt K mg) : FnOk P w K mg base CX0 1 (a_Stack_modules K) (fdOf K (a_Stack_modules K)) ["self"] (sp_Stack_modules K) := by
  refine (f_Stack_modules T).ok sc_Stack_modules (fun vs H Q E h => ?_) (fun cdv A outer s H vs Q E hr h => ?_)
  · obtain ⟨B, v, es, rfl, _⟩ := h
    rfl
  · obtain ⟨B, v, es, rfl, ⟨a, dx, p, st, n, xs, ws, rfl, h1, h2, h3, h4, h5, h6⟩, sm, k⟩ := h
    refine ⟨_, (pss_one (ps_ret (pe_fld (pv 0) rfl))), ?_⟩
    exact ⟨_, rfl, a, _, dx, _, _, rfl, sm _ _ h1, cl_Stack T, na_Stack_names T, rfl, k _ _ _ (Gr.refl sm) ⟨n, rfl, h6⟩⟩
def sp_Stack_len (K : PySem.W.Frag) : Sp := fun vs H Q _ => ∃ (v : V) (es : List En), vs = [v] ∧ rStack K es v H ∧ Q (.int es.length) H
theorem ok_Stack_len (T : Txt K mg) : FnOk P w K mg base CX0 1 (a_Stack_len K) (fdOf K (a_Stack_len K)) ["self"] (sp_Stack_len K) := by
  refine (f_Stack_len T).ok sc_Stack_len (fun vs H Q E h => ?_) (fun cdv A outer s H vs Q E hr h => ?_)
  · obtain ⟨v, es, rfl, _⟩ := h
    rfl
  · obtain ⟨v, es, rfl, ⟨a, dx, p, st, n, xs, ws, rfl, h1, h2, h3, h4, h5, h6⟩, k⟩ := h
    refine ⟨_, (pss_one (ps_ret (pe_callB call_len_seq (by rfl) (n_len T) (by decide +kernel) (pa_cons (pe_fld (pv 0) rfl) pa_nil)))), ?_⟩
    have hl : xs.length = es.length := by have := h3.length; simpa using this.symm
    exact ⟨_, rfl, a, _, dx, _, _, rfl, h1, cl_Stack T, na_Stack_parts T, rfl, p, xs, rfl, .inr h2, by rw [hl]; exact k⟩
def sp_Stack_add (K : PySem.W.Frag) : Sp := fun vs H Q _ => ∃ (B : Hp) (v u : V) (es fs : List En), vs = [v, u] ∧ rStack K es v B ∧ rStack K fs u B ∧ OkS (es ++ fs) ∧ Same B H ∧ Ret B H (rStack K (es ++ fs)) Q
theorem ok_Stack_add (T : Txt K mg) : FnOk P w K mg base CX0 4 (a_Stack_add K) (fdOf K (a_Stack_add K)) ["self", "other"] (sp_Stack_add K) := by
  refine (f_Stack_add T).ok sc_Stack_add (fun vs H Q E h => ?_) (fun cdv A outer s H vs Q E hr h => ?_)
  · obtain ⟨B, v, u, es, fs, rfl, _⟩ := h
    rfl
  · obtain ⟨B, v, u, es, fs, rfl, ⟨a, dx, p, st, n, xs, ws, rfl, h1, h2, h3, _⟩, ⟨b, dy, p', st', n', ys, ws', rfl, k1, k2, k3, _⟩, ok, sm, k⟩ := h
    refine ⟨_, (pss_cons (ps_set (i := 2) sc_Stack_add.nd rfl (Or.inl rfl) (pe_op op_addU (pe_fld (pv 0) rfl) (pe_fld (pv 1) rfl))) (pss_one (ps_ret (pe_makeS1 (mk_Stack T) (ok_Stack_init T) (hr.mono (by decide)) (by rfl) (g_Stack T) pass0 (pv 2))))), ?_⟩
    have hl : (xs ++ ys).length = (es ++ fs).length := by
      have a1 := h3.length
      have a2 := k3.length
      simp only [List.length_map] at a1 a2
      rw [List.length_append, List.length_append, a1, a2]
    refine ⟨_, rfl, a, _, dx, _, _, rfl, sm _ _ h1, cl_Stack T, na_Stack_parts T, rfl, _, rfl, b, _, dy, _, _, rfl, sm _ _ k1, cl_Stack T, na_Stack_parts T, rfl, ?_⟩
    refine Or.inr (Or.inr (catA_rep sm h2 k2 (by rw [← List.length_append, hl]; have := ok.len; omega) fun r B' H' g hr' => ?_))
    refine ⟨_, rfl, r, _, rfl, .inl (sqT_same g.sub hr'), ?_⟩
    refine mk_stack (B := B') (es := es ++ fs) ?_ ok g.sub (fun v B2 H2 g2 hv => k _ B2 H2 (g.then0 g2) hv)
    rw [List.map_append]
    exact (h3.mono g.base (mem_map_mono mono_en)).app (k3.mono g.base (mem_map_mono mono_en))
end
end Lg
/-! D7 -/
set_option maxHeartbeats 4000000
namespace Lg
open PySem L2
section
variable {P : Program} {w : World} {K : PySem.W.Frag} {mg : Str → Option Value} {base : Heap}
theorem mon_RuEq (K : PySem.W.Frag) : ∀ a b H H', Ext H H' → RuEq K a b H → RuEq K a b H' := fun a b H H' e ⟨x, h1, h2, h3⟩ => ⟨x, mono_rule x _ _ _ e h1, mono_rule x _ _ _ e h2, h3⟩
def FlEq (K : PySem.W.Frag) : Addr → Addr → Hp → Prop := fun a b H => ∃ xs : List Ru, rFlat K xs (.ref a) H ∧ rFlat K xs (.ref b) H ∧ ∀ x ∈ xs, x.2.all okAct = true
theorem mon_FlEq (K : PySem.W.Frag) : ∀ a b H H', Ext H H' → FlEq K a b H → FlEq K a b H' := fun a b H H' e ⟨x, h1, h2, h3⟩ => ⟨x, mono_flat x _ _ _ e h1, mono_flat x _ _ _ e h2, h3⟩
abbrev DRule (K : PySem.W.Frag) : Eqv := DIns (c_Rule K) (RuEq K)
abbrev DEnt (K : PySem.W.Frag) : Eqv := fun x y H => DIns (c_Rule K) (RuEq K) x y H ∨ DIns (c_Stack K) (FlEq K) x y H
theorem ok_Stack_eqF (T : Txt K mg) : FnOk P w K mg base CX0 7 (a_Stack_eq K) (fdOf K (a_Stack_eq K)) ["self", "other"] (spEq (FlEq K)) := by
  refine (f_Stack_eq T).ok sc_Stack_eq (fun vs H Q E h => ?_) (fun cdv A outer s H vs Q E hr h => ?_)
  · obtain ⟨a, b, rfl, _⟩ := h
    rfl
  · obtain ⟨a, b, rfl, ⟨xs, ⟨a1, dx, p, st, n, vs1, ws, e1, h1, h2, h3, h4, h5, h6⟩, ⟨b1, dy, p', st', n', vs2, ws', e2, k1, k2, k3, k4, k5, k6⟩, hact⟩, k⟩ := h
    cases e1
    cases e2
    refine ⟨_, (pss_one (ps_ret (pe_and (pe_callB call_isi (by rfl) (n_isinstance T) (by decide +kernel) (pa_cons (pv 1) (pa_cons (pe_gr (by rfl) (g_Stack T)) pa_nil))) (pe_one (pe_cmpR (op_eqG (rcG_tup (mon_ins (mon_RuEq K)) (eqG_ins (ok_Rule_eq T) (fi_Rule_eq T) (fn_Rule_eq T) (b_Rule_eq T) pass0)) (hr.mono (by decide))) (pe_fld (pv 0) rfl) (pe_fld (pv 1) rfl) (nomark _)))))), ?_⟩
    refine ⟨_, rfl, _, .ref _, _, _, true, rfl, .own _, .base (.ins k1 (cl_Stack T) (ic_Stack T) (ig_ T) (it_ T) (im_Stack T)), io_Stack_Stack T, true, rfl, iteT ?_⟩
    refine ⟨_, rfl, a, _, dx, _, _, rfl, h1, cl_Stack T, na_Stack_parts T, rfl, _, rfl, b, _, dy, _, _, rfl, k1, cl_Stack T, na_Stack_parts T, rfl, ?_⟩
    refine ⟨⟨p, p', vs1, vs2, rfl, rfl, h2, k2, ?_, fun i x y e1 e2 => ?_⟩, k⟩
    · have a1 := h3.length
      have a2 := k3.length
      rw [← a1, ← a2]
    · obtain ⟨R, hR, hx⟩ := h3.at_ e1
      obtain ⟨R', hR', hy⟩ := k3.at_ e2
      rw [hR] at hR'
      cases hR'
      rw [List.getElem?_map] at hR
      cases q : xs[i]? with
      | none => rw [q] at hR; cases hR
      | some d =>
        rw [q] at hR
        cases hR
        have ha := hact d (List.mem_of_getElem? q)
        obtain ⟨ra, rdx, rt, rfl, hra, hrt⟩ := id hx
        obtain ⟨rb, rdy, ru, rfl, hrb, hru⟩ := id hy
        exact ⟨ra, rb, rdx, rdy, _, _, rfl, rfl, hra, hrb, d, hx, hy, ha⟩
def StEq (K : PySem.W.Frag) : Addr → Addr → Hp → Prop := fun a b H => ∃ es : List En, rStack K es (.ref a) H ∧ rStack K es (.ref b) H ∧ ∀ x ∈ rulesOf es, x.2.all okAct = true
theorem ok_Stack_eq (T : Txt K mg) : FnOk P w K mg base CX0 9 (a_Stack_eq K) (fdOf K (a_Stack_eq K)) ["self", "other"] (spEq (StEq K)) := by
  refine (f_Stack_eq T).ok sc_Stack_eq (fun vs H Q E h => ?_) (fun cdv A outer s H vs Q E hr h => ?_)
  · obtain ⟨a, b, rfl, _⟩ := h
    rfl
  · obtain ⟨a, b, rfl, ⟨es, ⟨a1, dx, p, st, n, vs1, ws, e1, h1, h2, h3, h4, h5, h6⟩, ⟨b1, dy, p', st', n', vs2, ws', e2, k1, k2, k3, k4, k5, k6⟩, hact⟩, k⟩ := h
    cases e1
    cases e2
    refine ⟨_, (pss_one (ps_ret (pe_and (pe_callB call_isi (by rfl) (n_isinstance T) (by decide +kernel) (pa_cons (pv 1) (pa_cons (pe_gr (by rfl) (g_Stack T)) pa_nil))) (pe_one (pe_cmpR (op_eqG (rcG_tup (Mon.or (mon_ins (mon_RuEq K)) (mon_ins (mon_FlEq K))) (EqG.or (n := 7) ((eqG_ins (ok_Rule_eq T) (fi_Rule_eq T) (fn_Rule_eq T) (b_Rule_eq T) pass0).mono (by decide)) (eqG_ins (ok_Stack_eqF T) (fi_Stack_eq T) (fn_Stack_eq T) (b_Stack_eq T) pass0))) (hr.mono (by decide))) (pe_fld (pv 0) rfl) (pe_fld (pv 1) rfl) (nomark _)))))), ?_⟩
    refine ⟨_, rfl, _, .ref _, _, _, true, rfl, .own _, .base (.ins k1 (cl_Stack T) (ic_Stack T) (ig_ T) (it_ T) (im_Stack T)), io_Stack_Stack T, true, rfl, iteT ?_⟩
    refine ⟨_, rfl, a, _, dx, _, _, rfl, h1, cl_Stack T, na_Stack_parts T, rfl, _, rfl, b, _, dy, _, _, rfl, k1, cl_Stack T, na_Stack_parts T, rfl, ?_⟩
    refine ⟨⟨p, p', vs1, vs2, rfl, rfl, h2, k2, ?_, fun i x y e1 e2 => ?_⟩, k⟩
    · have a1 := h3.length
      have a2 := k3.length
      rw [← a1, ← a2]
    · obtain ⟨R, hR, hx⟩ := h3.at_ e1
      obtain ⟨R', hR', hy⟩ := k3.at_ e2
      rw [hR] at hR'
      cases hR'
      rw [List.getElem?_map] at hR
      cases q : es[i]? with
      | none => rw [q] at hR; cases hR
      | some d =>
        rw [q] at hR
        cases hR
        have hm := List.mem_of_getElem? q
        cases d with
        | r d =>
          have ha := hact d (List.mem_flatMap.mpr ⟨_, hm, List.mem_singleton.mpr rfl⟩)
          obtain ⟨ra, rdx, rt, rfl, hra, hrt⟩ := id hx
          obtain ⟨rb, rdy, ru, rfl, hrb, hru⟩ := id hy
          exact .inl ⟨ra, rb, rdx, rdy, _, _, rfl, rfl, hra, hrb, d, hx, hy, ha⟩
        | s xs =>
          have ha : ∀ x ∈ xs, x.2.all okAct = true := fun x hx => hact x (List.mem_flatMap.mpr ⟨_, hm, hx⟩)
          obtain ⟨ra, rdx, _, _, _, _, _, rfl, hra, _⟩ := id hx
          obtain ⟨rb, rdy, _, _, _, _, _, rfl, hrb, _⟩ := id hy
          exact .inr ⟨ra, rb, rdx, rdy, _, _, rfl, rfl, hra, hrb, xs, hx, hy, ha⟩
theorem slA_rep {H B : Hp} {a : Addr} {xs : List V} {lo hi : Option Int} {Q : VK} (sm : Same B H) (h : SqT K B a xs) (k : ∀ r B' H', Gr M0 B H B' H' → SqT K B' r (cutV xs lo hi) → Q (.ref r) H') : rSlA K (.ref a) lo hi H Q := by
  refine ⟨a, xs, rfl, sqT_same sm h, fun c => ?_, fun _ p hp => ?_⟩
  · refine k a B H (Gr.refl sm) ?_
    unfold cutV
    rw [c.1, c.2, List.drop_zero, Nat.sub_zero, List.take_length]
    exact h
  · exact k p _ _ (Gr.lay sm hp) (.inl (.inl upd_same))
theorem cut_take (xs : List V) {i : Nat} (h : i ≤ xs.length) : cutV xs none (some (i : Int)) = xs.take i := by
  unfold cutV
  rw [HT.sIx_nat, HT.sIx_none, List.drop_zero, Nat.sub_zero, Nat.min_eq_left h]
theorem cut_drop (xs : List V) {i : Nat} (h : i ≤ xs.length) : cutV xs (some (i : Int)) none = xs.drop i := by
  unfold cutV
  rw [HT.sIx_nat, HT.sIx_none, Nat.min_eq_left h]
  exact List.take_of_length_le (by rw [List.length_drop]; omega)
theorem PairR.take {B : Hp} : ∀ {Rs : List Rp} {vs : List V} (i : Nat), PairR Rs vs B → PairR (Rs.take i) (vs.take i) B
  | [], [], _, _ => by simp [PairR]
  | _ :: _, _ :: _, 0, _ => trivial
  | _ :: _, _ :: _, i + 1, h => ⟨h.1, PairR.take i h.2⟩
  | [], _ :: _, _, h => h.elim
  | _ :: _, [], _, h => h.elim
theorem PairR.drop {B : Hp} : ∀ {Rs : List Rp} {vs : List V} (i : Nat), PairR Rs vs B → PairR (Rs.drop i) (vs.drop i) B
  | [], [], _, _ => by simp [PairR]
  | _ :: _, _ :: _, 0, h => h
  | _ :: _, _ :: _, i + 1, h => PairR.drop i h.2
  | [], _ :: _, _, h => h.elim
  | _ :: _, [], _, h => h.elim
/-- without the i-th entry -/
def sp_spliced (K : PySem.W.Frag) : Sp := fun vs H Q _ => ∃ (B : Hp) (v : V) (i : Nat) (t : Addr) (es : List En), vs = [v, .int i, .int 1, .ref t] ∧ rStack K es v B ∧ SqT K B t [] ∧ i < es.length ∧ OkS es ∧ OkS (es.take i ++ es.drop (i + 1)) ∧ Same B H ∧ Ret B H (rStack K (es.take i ++ es.drop (i + 1))) Q
theorem ok_Stack_spliced (T : Txt K mg) : FnOk P w K mg base CX0 4 (a_Stack_spliced K) (fdOf K (a_Stack_spliced K)) ["self", "index", "count", "entries"] (sp_spliced K) := by
  refine (f_Stack_spliced T).ok sc_Stack_spliced (fun vs H Q E h => ?_) (fun cdv A outer s H vs Q E hr h => ?_)
  · obtain ⟨B, v, i, t, es, rfl, _⟩ := h
    rfl
  · obtain ⟨B, v, i, t, es, rfl, ⟨a, dx, p, st, n, xs, ws, rfl, h1, h2, h3, _⟩, ht, hi, ok0, ok, sm, k⟩ := h
    refine ⟨_, (pss_cons (ps_if (PW.pt (pw_or (pt_not (pt_val (pe_call (ok_is_number T) (hr.mono (by decide)) (by rfl) (g_is_number T) (f_is_number T).kp (b_is_number T) .nil pass0 (pa_cons (pv 1) (pa_cons pe_int (pa_cons (pe_callB call_len_seq (by rfl) (n_len T) (by decide +kernel) (pa_cons (pe_fld (pv 0) rfl) pa_nil)) pa_nil)))))) (pw_or1 (pt_not (pt_val (pe_call (ok_is_number T) (hr.mono (by decide)) (by rfl) (g_is_number T) (f_is_number T).kp (b_is_number T) .nil pass0 (pa_cons (pv 2) (pa_cons pe_int (pa_cons (pe_op op_sub (pe_callB call_len_seq (by rfl) (n_len T) (by decide +kernel) (pa_cons (pe_fld (pv 0) rfl) pa_nil)) (pv 1)) pa_nil))))))))) (pss_one ps_never) pss_nil) (pss_cons (ps_set (i := 4) sc_Stack_spliced.nd rfl (Or.inl rfl) (pe_op op_addU (pe_op op_addU (pe_slice sl_tupA (pe_fld (pv 0) rfl) po_none (po_some (pv 1))) (pv 3)) (pe_slice sl_tupA (pe_fld (pv 0) rfl) (po_some (pe_op op_addU (pv 1) (pv 2))) po_none))) (pss_one (ps_ret (pe_makeS1 (mk_Stack T) (ok_Stack_init T) (hr.mono (by decide)) (by rfl) (g_Stack T) pass0 (pv 4)))))), ?_⟩
    have hl : xs.length = es.length := by have := h3.length; simpa using this.symm
    have hl12 := ok0.len
    have hsm := sm _ _ h1
    refine ⟨_, rfl, _, rfl, a, _, dx, _, _, rfl, hsm, cl_Stack T, na_Stack_parts T, rfl, p, xs, rfl, .inr (sqT_same sm h2), _, _, _, rfl, ?_⟩
    rw [decide_eq_true (show (0 : Int) ≤ (i : Int) by omega), decide_eq_true (show (i : Int) ≤ (xs.length : Int) by omega)]
    refine ⟨true, rfl, iteF ?_⟩
    refine ⟨_, rfl, _, rfl, a, _, dx, _, _, rfl, hsm, cl_Stack T, na_Stack_parts T, rfl, p, xs, rfl, .inr (sqT_same sm h2), _, rfl, _, _, rfl, rfl, _, _, _, rfl, ?_⟩
    rw [decide_eq_true (show (0 : Int) ≤ (1 : Int) by omega), decide_eq_true (show (1 : Int) ≤ (xs.length : Int) - (i : Int) by omega)]
    refine ⟨true, rfl, iteF ?_⟩
    refine ⟨_, rfl, a, _, dx, _, _, rfl, hsm, cl_Stack T, na_Stack_parts T, rfl, ?_⟩
    refine ⟨_, rfl, _, rfl, slA_rep sm h2 fun r1 B1 H1 g1 hr1 => ?_⟩
    rw [cut_take xs (show i ≤ xs.length by omega)] at hr1
    refine ⟨_, rfl, Or.inr (Or.inr (catA_rep g1.sub hr1 (sqT_same g1.base ht) (by rw [List.length_take, List.length_nil]; omega) fun r2 B2 H2 g2 hr2 => ?_))⟩
    rw [List.append_nil] at hr2
    refine ⟨_, rfl, a, _, dx, _, _, rfl, g2.sub _ _ (g2.base _ _ (g1.base _ _ h1)), cl_Stack T, na_Stack_parts T, rfl, _, rfl, _, rfl, .inl ⟨i, 1, rfl, rfl, _, rfl, ?_⟩⟩
    dsimp only [tNoPart]
    refine slA_rep g2.sub (sqT_same (g1.base.trans g2.base) h2) fun r3 B3 H3 g3 hr3 => ?_
    rw [show (i : Int) + 1 = ((i + 1 : Nat) : Int) by omega, cut_drop xs (show i + 1 ≤ xs.length by omega)] at hr3
    refine Or.inr (Or.inr (catA_rep g3.sub (sqT_same g3.base hr2) hr3 (by rw [List.length_take, List.length_drop]; omega) fun r4 B4 H4 g4 hr4 => ?_))
    refine ⟨_, rfl, r4, _, rfl, .inl (sqT_same g4.sub hr4), ?_⟩
    have g := ((g1.then0 g2).then0 g3).then0 g4
    refine mk_stack (B := B4) (es := es.take i ++ es.drop (i + 1)) ?_ ok g4.sub (fun v B2 H2 g2 hv => k _ B2 H2 (g.then0 g2) hv)
    rw [List.map_append, List.map_take, List.map_drop]
    have h3' := h3.mono g.base (mem_map_mono mono_en)
    exact (h3'.take i).app (h3'.drop (i + 1))
end
end Lg
/-! D8 -/
set_option maxHeartbeats 4000000
namespace Lg
open PySem L2
theorem runE_skip (a : Ans) (b : Mk0) : ∀ (es : List En) (l : Nat) (n : Int) (m : Mk0), runE a b es l n m = runE a b (es.drop l) 0 (n + (rulesOf (es.take l)).length) m
  | [], l, n, m => by simp [runE]
  | e :: es, 0, n, m => by simp [rulesOf]
  | e :: es, l + 1, n, m => by
    have h1 : runE a b (e :: es) (l + 1) n m = runE a b es l (n + e.rules.length) m := by
      cases e <;> rfl
    rw [h1, runE_skip a b es l]
    have h2 : (rulesOf ((e :: es).take (l + 1))).length = e.rules.length + (rulesOf (es.take l)).length := by simp [rulesOf]
    rw [h2, List.drop_succ_cons, Int.natCast_add, Int.add_assoc]
theorem runE_r (a : Ans) (b : Mk0) (x : Ru) (es : List En) (n : Int) (m : Mk0) : runE a b (.r x :: es) 0 n m =
    if stopsAt (actOf x (get a x.1)) (markd (actOf x (get a x.1)) m b n) = true then markd (actOf x (get a x.1)) m b n else runE a b es (jumpOf (actOf x (get a x.1))) (n + 1) (markd (actOf x (get a x.1)) m b n) := rfl
theorem runE_flat (a : Ans) (b : Mk0) : ∀ (xs : List Ru) (l : Nat) (n : Int) (m : Mk0), runE a b (xs.map En.r) l n m = runR a b xs l n m
  | [], l, n, m => by cases l <;> rfl
  | x :: xs, l + 1, n, m => by
    show runE a b (xs.map En.r) l (n + 1) m = runR a b xs l (n + 1) m
    rw [runE_flat a b xs]
  | x :: xs, 0, n, m => by
    rw [List.map_cons]
    unfold runE runR
    simp only [runE_flat a b xs]
theorem rulesOf_flat (xs : List Ru) : rulesOf (xs.map En.r) = xs := by
  induction xs with
  | nil => rfl
  | cons x xs ih =>
    show [x] ++ rulesOf (xs.map En.r) = x :: xs
    rw [ih]
    rfl
/-- the answers have a result for each rule -/
def Cov (a : Ans) (es : List En) : Prop := ∀ x ∈ rulesOf es, ∃ r, a.lookup x.1 = some r ∧ r ∈ results
theorem valV_ans : ∀ (a : Ans) (x : Str), valV (a.map fun k => ((Sum.inr k.1 : Key), V.str k.2)) (Sum.inr x) = (a.lookup x).map V.str
  | [], _ => rfl
  | k :: a, x => by
    have ih := valV_ans a x
    unfold valV at ih ⊢
    rw [List.map_cons, List.find?_cons]
    by_cases h : k.1 = x
    · subst h
      simp [List.lookup]
    · have h1 : decide ((Sum.inr k.1 : Key) = Sum.inr x) = false := decide_eq_false fun z => h (by injection z)
      have h2 : (x == k.1) = false := beq_eq_false_iff_ne.mpr fun z => h z.symm
      obtain ⟨k1, k2⟩ := k
      simp only [h1, List.lookup, h2]
      exact ih
theorem num_at : ∀ (es : List En) (i : Int) (j : Nat) (e : En), es[j]? = some e → (firstsL es i)[j]? = some (i + (rulesOf (es.take j)).length)
  | [], _, _, _, h => by simp at h
  | e :: es, i, 0, _, _ => by simp [firstsL, rulesOf]
  | e :: es, i, j + 1, e', h => by
    have := num_at es (i + e.rules.length) j e' (by simpa using h)
    show (firstsL es (i + e.rules.length))[j]? = _
    rw [this]
    have h2 : (rulesOf ((e :: es).take (j + 1))).length = e.rules.length + (rulesOf (es.take j)).length := by simp [rulesOf]
    rw [h2, Int.natCast_add, Int.add_assoc]
theorem ifS_b {c : TT} {t u : TS} {D : Ends} {σ : L2.St} {H : Hp} (b : Bool) (h : ∀ Q : Bool → Hp → Prop, Q b H → c σ H Q) (ht : b = true → t D σ H) (hf : b = false → u D σ H) : tIfS c t u D σ H := by
  refine h _ ?_
  cases b with
  | true => exact iteT (ht rfl)
  | false => exact iteF (hf rfl)
theorem ok_parts {x : Ru} (h : okRu x = true) : okMod x.1 = true ∧ x.2.length = 4 ∧ x.2.all okAct = true := by
  unfold okRu at h
  rw [Bool.and_eq_true, Bool.and_eq_true, decide_eq_true_iff] at h
  exact ⟨h.1.1, h.1.2, h.2⟩
theorem ix_lt {r : Str} (hm : r ∈ results) : ixRes r < 4 := by
  simp only [results, List.mem_cons, List.not_mem_nil, or_false] at hm
  rcases hm with rfl | rfl | rfl | rfl <;> decide +kernel
theorem ok_actOf {x : Ru} {r : Str} (h : okRu x = true) (hm : r ∈ results) : okAct (actOf x r) = true := by
  obtain ⟨_, h4, ha⟩ := ok_parts h
  have hlt : ixRes r < x.2.length := by rw [h4]; exact ix_lt hm
  have e : actOf x r = x.2[ixRes r] := by
    show x.2.getD (ixRes r) .non = _
    rw [List.getD_eq_getElem?_getD, List.getElem?_eq_getElem hlt]
    rfl
  rw [e]
  exact List.all_eq_true.mp ha _ (List.getElem_mem hlt)
section
variable {P : Program} {w : World} {K : PySem.W.Frag} {mg : Str → Option Value} {base : Heap}
def insRun0 (K : PySem.W.Frag) (dx d l : Addr) : HO := .ins (c_Run K) dx [("told", .ref d), ("asked_rules", .ref l)]
/-- entries that the def at hand can run -/
def sp_ended (K : PySem.W.Frag) (okE : En → Prop) : Sp := fun vs H Q _ => ∃ (B : Hp) (a dx d l : Addr) (sv mv : V) (n : Int) (es : List En) (rs : List Ru) (ms : List Str) (dp : Int) (ans : Ans) (m : Mk0) (ys : List V),
  vs = [.ref a, sv, .int n, mv] ∧ H a = some (insRun0 K dx d l) ∧ H l = some (.lst ys) ∧ B a = none ∧ B l = none ∧ B d = some (.dK (ans.map fun k => (Sum.inr k.1, V.str k.2))) ∧ rStackOf K (es.map (rEn K)) rs ms dp sv B ∧ (∀ e ∈ es, okE e) ∧ es.length ≤ 12 ∧ (rulesOf es).length ≤ 12 ∧
  (∀ x ∈ rulesOf es, okRu x = true) ∧ Cov ans es ∧ rMark K m mv B ∧ ys.length + (rulesOf es).length ≤ 1000 ∧ Same B H ∧
  ∀ v B' H', Gr (fun z => z = l) B H B' H' → (∃ ys', H' l = some (.lst ys') ∧ ys'.length ≤ ys.length + (rulesOf es).length) → rMark K (runE ans m es 0 n m) v B' → Q v H'
theorem ok_ended_gen (T : Txt K mg) {k : Nat} (okE : En → Prop) {sub : Sp} (F : FnOk P w K mg base CX0 (k + 2) (a_Run_ended K) (fdOf K (a_Run_ended K)) ["self", "stack", "first", "mark"] sub)
    (hsub : ∀ xs, okE (.s xs) → ∀ vs H Q E, sp_ended K (fun e => ∃ x, e = .r x) vs H Q E → sub vs H Q E) :
    FnOk P w K mg base CX0 (k + 3) (a_Run_ended K) (fdOf K (a_Run_ended K)) ["self", "stack", "first", "mark"] (sp_ended K okE) := by
  refine (f_Run_ended T).ok sc_Run_ended (fun vs H Q E h => ?_) (fun cdv A outer s H vs Q E hr h => ?_)
  · obtain ⟨B, a, dx, d, l, sv, mv, n, es, rs, ms, dp, ans, m, ys, rfl, _⟩ := h
    rfl
  · obtain ⟨B, a, dx, d, l, sv, mv, n, es, rs, ms, dp, ans, m, ys, rfl, hA, hL, hBa, hBl, hd, hst, hok, h12, hrl, hru, hcov, hm, hlen, sm, k⟩ := h
    refine ⟨_, (pss_cons (ps_par (i := 4) (j := 5) rfl sc_Run_ended.nd rfl rfl (by decide) rfl rfl (pa_cons (pv 3) (pa_cons pe_int pa_nil)) (by rfl)) (pss_cons (ps_set (i := 6) sc_Run_ended.nd rfl (Or.inl rfl) (pe_call (ok_firsts_of T) (hr.mono (by omega)) (by rfl) (g_firsts_of T) (f_firsts_of T).kp (b_firsts_of T) .nil pass0 (pa_cons (pv 1) (pa_cons (pv 2) pa_nil)))) (pss_cons (ps_while PassesOwn.never (pt_cmpR op_lt (pv 5) (pe_callB call_len_seq (by rfl) (n_len T) (by decide +kernel) (pa_cons (pe_fld (pv 1) rfl) pa_nil)) (nomark _)) (pss_cons (ps_par (i := 8) (j := 9) rfl sc_Run_ended.nd rfl rfl (by decide) rfl rfl (pa_cons (pe_ix ix_seq (pe_fld (pv 1) rfl) (pv 5) (fun _ _ => rfl)) (pa_cons (pe_ix ix_seq (pv 6) (pv 5) (fun _ _ => rfl)) pa_nil)) (by rfl)) (pss_cons (ps_aug (i := 5) sc_Run_ended.nd rfl (Or.inl rfl) pe_int ip_add) (pss_cons (ps_if (pt_val (pe_callB call_isi (by rfl) (n_isinstance T) (by decide +kernel) (pa_cons (pv 8) (pa_cons (pe_gr (by rfl) (g_Stack T)) pa_nil)))) (pss_cons (ps_set (i := 3) sc_Run_ended.nd rfl (Or.inl rfl) (pe_meth (pv 0) (cl_Run T) (m_Run_ended T) F (hr.mono (by omega)) (b_Run_ended T) .nil pass0 (pa_cons (pv 8) (pa_cons (pv 9) (pa_cons (pv 3) pa_nil))))) (pss_one ps_continue)) pss_nil) (pss_cons (ps_expr (pe_bm PySem.F.plainAttrs_list PySem.F.slot_list_append PySem.F.type_list_append mt_append (pe_fld (pv 0) rfl) (pa_cons (pv 9) pa_nil))) (pss_cons (ps_set (i := 7) sc_Run_ended.nd rfl (Or.inl rfl) (pe_meth (pv 8) (cl_Rule T) (m_Rule_action_for T) (ok_Rule_action_for T) (hr.mono (by omega)) (b_Rule_action_for T) .nil pass0 (pa_cons (pe_dget (hu_of hr) (pe_fld (pv 0) rfl) (pe_fld (pv 8) rfl) (fun _ _ => rfl)) pa_nil))) (pss_cons (ps_set (i := 3) sc_Run_ended.nd rfl (Or.inl rfl) (pe_call (ok_marked T) (hr.mono (by omega)) (by rfl) (g_marked T) (f_marked T).kp (b_marked T) .nil pass0 (pa_cons (pv 7) (pa_cons (pv 3) (pa_cons (pv 4) (pa_cons (pv 9) pa_nil)))))) (pss_cons (ps_if (PW.pt (pw_or (pt_cmpR op_eq (pv 7) (pe_gs (by rfl) (g_DIE T)) (nomark _)) (pw_or1 (PW.pt (pw_and (pt_cmpR op_eq (pv 7) (pe_gs (by rfl) (g_DONE T)) (nomark _)) (pw_and1 (pt_cmpR (op_eqD hr.units) (pv 3) (pe_gr (by rfl) (g_GOOD T)) (nomark _)))))))) (pss_one (ps_ret (pv 3))) pss_nil) (pss_one (ps_if (pt_val (pe_callB call_isi (by rfl) (n_isinstance T) (by decide +kernel) (pa_cons (pv 7) (pa_cons (pe_ty (n := "int") (by rfl) (n_int T) (by decide +kernel)) pa_nil)))) (pss_one (ps_aug (i := 5) sc_Run_ended.nd rfl (Or.inl rfl) (pv 7) ip_add)) pss_nil)))))))))) (pss_one (ps_ret (pv 3)))))), ?_⟩
    obtain ⟨sa, sdx, p, st, nn, xs, ws, rfl, h1, h2, h3, h4, h5, h6⟩ := hst
    have m0 : MOk (fun z => z = l) B H := fun z e => by
      cases e
      exact ⟨hBl, _, hL⟩
    have hxl : xs.length = es.length := by have := h3.length; simpa using this.symm
    have hal : a ≠ l := ne_of hA hL (fun z => by cases z)
    refine ⟨_, rfl, _, _, rfl, ?_⟩
    refine ⟨_, rfl, _, rfl, B, _, n, es, rs, ms, dp, rfl, ⟨sa, sdx, p, st, nn, xs, ws, rfl, h1, h2, h3, h4, h5, h6⟩, h12, sm, fun v B1 H1 g1 hv => ?_⟩
    obtain ⟨fp, rfl, hfp⟩ := hv
    refine ⟨fun k σ H' => ∃ i mk mv' B' ys' x7 x8 x9, k = es.length - i ∧ Gr (fun z => z = l) B H B' H' ∧ Same B1 B' ∧ H' l = some (.lst ys') ∧ ys'.length + (rulesOf (es.drop i)).length ≤ ys.length + (rulesOf es).length ∧ rMark K mk mv' B' ∧
      runE ans m (es.drop i) 0 (n + (rulesOf (es.take i)).length) mk = runE ans m es 0 n m ∧
      σ = [some (.ref a), some (.ref sa), some (.int n), some mv', some mv, some (.int (i : Nat)), some (.ref fp), x7, x8, x9], ⟨es.length, 0, m, mv, B1, ys, none, none, none, rfl, g1.up, .refl _, g1.same _ _ hL, ?_, mono_mark m _ _ _ g1.base hm, ?_, rfl⟩, ?_⟩
    · exact Nat.le_refl _
    · simp [rulesOf]
    rintro kk σ H' ⟨i, mk, mv', B', ys', x7, x8, x9, rfl, g, sB, hL', hyl, hmk, hrun, rfl⟩
    have hA' := g.keep a _ hal hA
    have h1' := g.sub _ _ (g.base _ _ h1)
    refine ⟨_, rfl, _, rfl, sa, _, sdx, _, _, rfl, h1', cl_Stack T, na_Stack_parts T, rfl, p, xs, rfl, .inr (sqT_B g h2), _, _, rfl, rfl, decide ((i : Int) < (xs.length : Int)), rfl, ?_⟩
    by_cases hi : i < es.length
    · rw [decide_eq_true (show (i : Int) < (xs.length : Int) by omega)]
      refine iteT ⟨fun σ' H'' => ∃ m', m' < es.length - i ∧ _, fun _ _ h => h, ?_⟩
      obtain ⟨e, he⟩ : ∃ e, es[i]? = some e := ⟨es[i], by simp [hi]⟩
      obtain ⟨xe, hxe, hxeB⟩ := h3.get (show (es.map (rEn K))[i]? = some (rEn K e) by rw [List.getElem?_map, he]; rfl)
      have hfi := num_at es n i e he
      have hdrop : es.drop i = e :: es.drop (i + 1) := by
        rw [List.drop_eq_getElem_cons hi]
        congr 1
        have := List.getElem?_eq_some_iff.mp he
        exact this.2
      have htk := rulesOf_take he
      have hin : e ∈ es := List.mem_of_getElem? he
      have hxe' := mono_en e _ _ _ g.base hxeB
      refine ⟨_, rfl, sa, _, sdx, _, _, rfl, h1', cl_Stack T, na_Stack_parts T, rfl, _, rfl, .inr (.inl ⟨p, xs, _, _, rfl, rfl, sqT_B g h2, atI_nat hxe, ?_⟩)⟩
      refine ⟨_, rfl, _, rfl, .inl ⟨fp, _, _, _, rfl, rfl, SqL.of (g.sub _ _ (sB _ _ hfp)), atI_nat (show ((firstsL es n).map V.int)[i]? = some (V.int (n + (rulesOf (es.take i)).length)) by rw [List.getElem?_map, hfi]; rfl), _, _, rfl, ?_⟩⟩
      refine ⟨_, rfl, _, _, rfl, rfl, ?_⟩
      have hnum : ((i : Nat) : Int) + 1 = ((i + 1 : Nat) : Int) := by omega
      have hrr : (rulesOf (es.drop i)).length = e.rules.length + (rulesOf (es.drop (i + 1))).length := by rw [hdrop]; simp [rulesOf]
      cases e with
      | s ss =>
        refine ⟨_, rfl, _, .ref _, _, _, true, rfl, .own _, en_ty T hxe' _ g.sub, en_S T (.s ss), true, rfl, iteT ?_⟩
        have hs12 : ss.length ≤ (rulesOf es).length := by
          have h1 := rulesOf_take_le es (i + 1)
          rw [htk, List.length_append] at h1
          have h2 : (En.s ss).rules.length = ss.length := rfl
          omega
        have hsub' : ∀ x ∈ ss, x ∈ rulesOf es := fun x hx => List.mem_flatMap.mpr ⟨_, hin, hx⟩
        refine ⟨_, rfl, a, dx, _, rfl, hA', rfl, _, rfl, _, rfl, _, rfl, hsub ss (hok _ hin) _ _ _ _ ⟨B', a, dx, d, l, xe, mv', n + (rulesOf (es.take i)).length, ss.map En.r, ss, modsR ss, 1, ans, mk, ys', rfl, hA', hL', g.new a _ hBa hA, g.new l _ hBl hL, g.base _ _ hd, ?_, ?_, ?_, ?_, ?_, ?_, hmk, ?_, g.sub, fun v B2 H2 g2 hy2 hv2 => ?_⟩⟩
        · rw [List.map_map]
          exact hxe'
        · intro e' h'
          obtain ⟨x, _, rfl⟩ := List.mem_map.mp h'
          exact ⟨x, rfl⟩
        · rw [List.length_map]
          omega
        · rw [rulesOf_flat]
          omega
        · rw [rulesOf_flat]
          exact fun x hx => hru x (hsub' x hx)
        · intro x hx
          rw [rulesOf_flat] at hx
          exact hcov x (hsub' x hx)
        · rw [rulesOf_flat]
          have h2 : (En.s ss).rules.length = ss.length := rfl
          omega
        · obtain ⟨ys2, hl2, hyl2⟩ := hy2
          rw [rulesOf_flat] at hyl2
          have h2 : (En.s ss).rules.length = ss.length := rfl
          refine ⟨es.length - (i + 1), by omega, i + 1, _, v, B2, ys2, _, _, _, rfl, g.trans m0 g2, sB.trans g2.base, hl2, by omega, hv2, ?_, by rw [← hnum]; rfl⟩
          rw [← hrun, hdrop, runE_flat, htk, List.length_append, Int.natCast_add, ← Int.add_assoc]
          rfl
      | r x =>
        refine ⟨_, rfl, _, .ref _, _, _, false, rfl, .own _, en_ty T hxe' _ g.sub, en_S T (.r x), false, rfl, iteF ?_⟩
        have hxin : x ∈ rulesOf es := List.mem_flatMap.mpr ⟨_, hin, List.mem_singleton.mpr rfl⟩
        have hox := hru x hxin
        obtain ⟨r, hr1, hr2⟩ := hcov x hxin
        have hget : get ans x.1 = r := by
          unfold get
          rw [hr1]
          rfl
        have hx1 : (En.r x).rules.length = 1 := rfl
        have hBl' := g.new l _ hBl hL
        refine ⟨_, rfl, a, _, dx, _, _, rfl, hA', cl_Run T, na_Run_asked_rules T, rfl, .inl ⟨rfl, _, SqL.of hL'⟩, _, rfl, l, ys', _, rfl, rfl, hL', line_lt (by omega), ?_⟩
        have gU := Gr.mut (o := .lst (ys' ++ [V.int (n + (rulesOf (es.take i)).length)])) g hBl' (.inr rfl)
        have hAU := gU.keep a _ hal hA
        obtain ⟨ra, rdx, rt, rfl, hra, hrt⟩ := id hxe'
        have hraU := gU.sub _ _ hra
        refine ⟨_, rfl, ra, rdx, _, rfl, hraU, rfl, ?_⟩
        refine ⟨_, rfl, a, _, dx, _, _, rfl, hAU, cl_Run T, na_Run_told T, rfl, _, rfl, ra, _, rdx, _, _, rfl, hraU, cl_Rule T, na_Rule_asks T, rfl, d, .str r, rfl, ?_, ?_⟩
        · exact .inl ⟨_, Sum.inr x.1, .inl (gU.sub _ _ (g.base _ _ hd)), rfl, by rw [valV_ans, hr1]; rfl⟩
        refine ⟨.ref ra, x, r, rfl, mono_rule x _ _ _ gU.sub hxe', (ok_parts hox).2.1, hr2, ?_⟩
        have hact := ok_actOf hox hr2
        refine ⟨_, rfl, _, rfl, _, rfl, _, rfl, B', actOf x r, mv', mv, mk, m, n + (rulesOf (es.take i)).length, rfl, hact, hmk, mono_mark m _ _ _ g.base hm, gU.sub, fun v B2 H2 g2 hv2 => ?_⟩
        have gT := gU.trans m0 g2.up
        have hrun2 : runE ans m (En.r x :: es.drop (i + 1)) 0 (n + (rulesOf (es.take i)).length) mk = runE ans m es 0 n m := by rw [← hdrop]; exact hrun
        rw [runE_r, hget] at hrun2
        generalize hac : actOf x r = act at hact hv2 hrun2
        generalize hmm : markd act mk m (n + (rulesOf (es.take i)).length) = m2 at hv2 hrun2
        have hL2 := g2.same _ _ (upd_same (H := H'))
        have hgood : rMark K .good (.ref (He.ga K "GOOD")) H2 := ⟨_, rfl, t_GOOD T _⟩
        dsimp only [gName, tSeq]
        refine ifS_b (b := stopsAt act m2) (fun Qf q => ?_) (fun hb => ?_) (fun hb => ?_)
        · refine ⟨_, rfl, scal_act hact, isW act "die", rfl, ?_⟩
          unfold stopsAt at q
          cases hd : isW act "die" with
          | true =>
            rw [hd, Bool.true_or] at q
            exact iteT q
          | false =>
            rw [hd, Bool.false_or] at q
            refine iteF ⟨_, rfl, scal_act hact, isW act "done", rfl, ?_⟩
            cases hd2 : isW act "done" with
            | true =>
              rw [hd2, Bool.true_and] at q
              exact iteT ⟨_, rfl, mkDat m2, mkDat .good, mk_dp (mono_mark m2 _ _ _ g2.sub hv2), mk_dp hgood, mk_sh _, mk_sh _, decide (m2 = .good), by rw [mk_eq], q⟩
            | false =>
              rw [hd2, Bool.false_and] at q
              exact iteF q
        · rw [if_pos hb] at hrun2
          refine ⟨_, rfl, k _ _ _ gT ⟨_, hL2, by rw [List.length_append, List.length_singleton]; omega⟩ ?_⟩
          rw [← hrun2]
          exact hv2
        · rw [hb] at hrun2
          rw [if_neg (by decide), runE_skip] at hrun2
          have key : ∀ j : Nat, jumpOf act = j → ∀ σ', σ' = [some (.ref a), some (.ref sa), some (.int n), some v, some mv, some (.int ((i + 1 + j : Nat) : Int)), some (.ref fp), some act, some (.ref ra), some (.int (n + (rulesOf (es.take i)).length))] →
              ∃ m', m' < es.length - i ∧ ∃ i mk mv' B' ys' x7 x8 x9, m' = es.length - i ∧ Gr (fun z => z = l) B H B' H2 ∧ Same B1 B' ∧ H2 l = some (.lst ys') ∧ ys'.length + (rulesOf (es.drop i)).length ≤ ys.length + (rulesOf es).length ∧ rMark K mk mv' B' ∧
              runE ans m (es.drop i) 0 (n + (rulesOf (es.take i)).length) mk = runE ans m es 0 n m ∧
              σ' = [some (.ref a), some (.ref sa), some (.int n), some mv', some mv, some (.int (i : Nat)), some (.ref fp), x7, x8, x9] := by
            intro j hj σ' eσ
            rw [hj] at hrun2
            refine ⟨es.length - (i + 1 + j), by omega, i + 1 + j, m2, v, B2, _, _, _, _, rfl, gT, sB.trans g2.base, hL2, ?_, hv2, ?_, eσ⟩
            · have h1 : (rulesOf (es.drop (i + 1 + j))).length ≤ (rulesOf (es.drop (i + 1))).length := by
                conv => rhs; rw [← List.take_append_drop j (es.drop (i + 1)), rulesOf_append, List.length_append, List.drop_drop]
                omega
              rw [List.length_append, List.length_singleton]
              omega
            · rw [← hrun2, List.drop_drop]
              have h2 : (rulesOf (es.take (i + 1 + j))).length = (rulesOf (es.take i)).length + 1 + (rulesOf ((es.drop (i + 1)).take j)).length := by
                rw [List.take_add, rulesOf_append, List.length_append, htk, List.length_append]
                rfl
              rw [h2, Int.natCast_add, Int.natCast_add, ← Int.add_assoc, ← Int.add_assoc]
              rfl
          cases act with
          | str z =>
            refine ⟨_, rfl, _, .ty _, _, _, false, rfl, .ty _, (.base (.str z)), kit_ty (by decide +kernel), false, rfl, iteF ?_⟩
            exact key 0 rfl _ (by rw [← hnum]; rfl)
          | int j =>
            refine ⟨_, rfl, _, .ty _, _, _, true, rfl, .ty _, (.base (.int j)), kit_ty (by decide +kernel), true, rfl, iteT ?_⟩
            have hj := of_decide_eq_true (show decide (1 ≤ j ∧ j ≤ 9) = true from hact)
            refine ⟨_, rfl, _, rfl, _, _, rfl, rfl, ?_⟩
            refine key j.toNat rfl _ ?_
            have : ((i : Nat) : Int) + 1 + j = ((i + 1 + j.toNat : Nat) : Int) := by omega
            rw [← this]
            rfl
          | _ => cases hact
    · rw [decide_eq_false (show ¬ (i : Int) < (xs.length : Int) by omega)]
      refine iteF ⟨_, rfl, k _ _ _ g ⟨ys', hL', by omega⟩ ?_⟩
      rw [← hrun, List.drop_eq_nil_of_le (by omega)]
      exact hmk
theorem ok_ended_flat (T : Txt K mg) : FnOk P w K mg base CX0 3 (a_Run_ended K) (fdOf K (a_Run_ended K)) ["self", "stack", "first", "mark"] (sp_ended K fun e => ∃ x, e = .r x) :=
  ok_ended_gen T (k := 0) (sub := fun _ _ _ _ => False) _ ⟨fun _ _ _ _ h => h.elim, fun _ _ _ _ _ _ _ _ _ _ _ _ _ h => h.elim⟩ fun xs h => by
    obtain ⟨x, e⟩ := h
    cases e
theorem ok_ended (T : Txt K mg) : FnOk P w K mg base CX0 4 (a_Run_ended K) (fdOf K (a_Run_ended K)) ["self", "stack", "first", "mark"] (sp_ended K fun _ => True) :=
  ok_ended_gen T (k := 1) (fun _ => True) (ok_ended_flat T) fun xs _ vs H Q E h => h
theorem Gr.trans' {M N : Addr → Prop} {B H B1 H1 B2 H2 : Hp} (g : Gr M B H B1 H1) (k : Gr N B1 H1 B2 H2) (h : ∀ z, N z → M z ∨ H z = none) : Gr M B H B2 H2 := by
  refine ⟨g.base.trans k.base, k.sub, fun a o m e => k.keep a o (fun n => ?_) (g.keep a o m e), fun a o e => ?_, fun a o e1 e2 => ?_⟩
  · rcases h a n with q | q
    · exact m q
    · rw [q] at e
      cases e
  · obtain ⟨o1, e1⟩ := g.there a o e
    exact k.there a o1 e1
  · obtain ⟨o1, h1⟩ := g.there a o e2
    exact k.new a o1 (g.new a o e1 e2) h1
def insRun (K : PySem.W.Frag) (dx d l m : Addr) : HO := .ins (c_Run K) dx [("told", .ref d), ("asked_rules", .ref l), ("mark", .ref m)]
def sp_Run_init (K : PySem.W.Frag) : Sp := fun vs H Q _ => ∃ (B : Hp) (a dx d : Addr) (sv : V) (es : List En) (ans : Ans), vs = [.ref a, sv, .ref d] ∧ B a = none ∧ H a = some (.ins (c_Run K) dx []) ∧ rStack K es sv B ∧ OkS es ∧ B d = some (.dK (ans.map fun k => (Sum.inr k.1, V.str k.2))) ∧ Cov ans es ∧ Same B H ∧
  ∀ B' H' l m, Gr (fun z => z = a) B H B' H' → H' a = some (insRun K dx d l m) → rMark K (runE ans .none es 0 0 .none) (.ref m) B' → Q .non H'
theorem ok_Run_init (T : Txt K mg) : FnOk P w K mg base CX0 5 (a_Run_init K) (fdOf K (a_Run_init K)) ["self", "stack", "results"] (sp_Run_init K) := by
  refine (f_Run_init T).ok sc_Run_init (fun vs H Q E h => ?_) (fun cdv A outer s H vs Q E hr h => ?_)
  · obtain ⟨B, a, dx, d, sv, es, ans, rfl, _⟩ := h
    rfl
  · obtain ⟨B, a, dx, d, sv, es, ans, rfl, hB, hH, hst, ok, hd, hcov, sm, k⟩ := h
    refine ⟨_, (pss_cons (ps_fld (pv 0) (pv 2) rfl) (pss_cons (ps_fld (pv 0) (pe_lst pa_nil) rfl) (pss_one (ps_fld (pv 0) (pe_meth (pv 0) (cl_Run T) (m_Run_ended T) (ok_ended T) (hr.mono (by decide)) (b_Run_ended T) .nil pass0 (pa_cons (pv 1) (pa_cons pe_int (pa_cons (pe_gr (by rfl) (g_NONE T)) pa_nil)))) rfl)))), ?_⟩
    have m0 : MOk (fun z => z = a) B H := fun z e => by
      cases e
      exact ⟨hB, _, hH⟩
    refine ⟨_, rfl, _, rfl, a, _, dx, [], rfl, hH, cl_Run T, na_Run_told T, (show 0 < 1000 by decide), ?_⟩
    have g1 := Gr.set (M := fun z => z = a) (o := .ins (c_Run K) dx [("told", .ref d)]) sm hB rfl
    refine ⟨line_le (show 0 ≤ 1000000 by decide), fun l hl => ⟨_, rfl, a, _, dx, [("told", .ref d)], rfl, ?_, cl_Run T, na_Run_asked_rules T, (show 1 < 1000 by decide), ?_⟩⟩
    · rw [upd_ne (ne_of_none upd_same hl)]
      exact upd_same
    have g2 := Gr.trans m0 g1 (Gr.hid (o := .lst []) g1.sub hl)
    have g3 := Gr.set' (o := insRun0 K dx d l) g2 (g2.new a _ hB hH) rfl
    have hal : a ≠ l := ne_of_none (upd_same (H := H)) hl
    have hBl : B l = none := g1.sub.free hl
    have hHl : H l = none := by
      cases q : H l with
      | none => rfl
      | some o =>
        obtain ⟨o', e⟩ := g1.there l o q
        exact absurd (e.symm.trans hl) (by simp)
    refine ⟨_, rfl, a, dx, [("told", .ref d), ("asked_rules", .ref l)], rfl, upd_same, rfl, _, rfl, ?_⟩
    refine ⟨B, a, dx, d, l, sv, _, 0, es, _, _, _, ans, .none, [], rfl, upd_same, ?_, hB, hBl, hd, hst, fun _ _ => trivial, ok.len, ok.rl, ok.ru, hcov, ⟨_, rfl, t_NONE T _⟩, ?_, g3.sub, fun v B' H' g4 hy hv => ?_⟩
    · rw [upd_ne (Ne.symm hal)]
      exact upd_same
    · have := ok.rl
      simp only [List.length_nil]
      omega
    obtain ⟨mp, rfl, hmp⟩ := id hv
    have g5 := g3.trans' g4 fun z e => .inr (by rw [e]; exact hHl)
    have hA5 := g4.keep a _ hal (upd_same (o := insRun0 K dx d l))
    refine ⟨_, rfl, a, _, dx, _, rfl, hA5, cl_Run T, na_Run_mark T, (show 2 < 1000 by decide), ?_⟩
    exact k B' _ l mp (Gr.set' g5 (g5.new a _ hB hH) rfl) upd_same hv
/-- a run's object -/
def rRun (K : PySem.W.Frag) (m : Mk0) : Rp := fun v B => ∃ a dx d l p, v = .ref a ∧ B a = some (insRun K dx d l p) ∧ rMark K m (.ref p) B
theorem mk_run {H : Hp} {Q : Addr → Hp → Prop} {E : XK} {B : Hp} {sv : V} {d : Addr} {es : List En} {ans : Ans} (hst : rStack K es sv B) (ok : OkS es) (hd : B d = some (.dK (ans.map fun k => (Sum.inr k.1, V.str k.2)))) (hc : Cov ans es) (sm : Same B H) (k : ∀ a B' H', Gr M0 B H B' H' → rRun K (runE ans .none es 0 0 .none) (.ref a) B' → Q a H') :
    ∀ a dx, H a = none → H dx = none → dx ≠ a → sp_Run_init K [.ref a, sv, .ref d] (upd (upd H dx (.own a)) a (.ins (c_Run K) dx [])) (fun v H2 => v = .non ∧ Q a H2) E := by
  intro a dx h1 h2 hne
  have s1 : Same H (upd (upd H dx (.own a)) a (.ins (c_Run K) dx [])) := fun p u e => by
    rw [upd_ne (ne_of_none e h1), upd_ne (ne_of_none e h2)]; exact e
  refine ⟨B, a, dx, d, sv, es, ans, rfl, sm.free h1, upd_same, hst, ok, hd, hc, sm.trans s1, fun B' H' l m g e hm => ⟨rfl, ?_⟩⟩
  obtain ⟨g1, g2⟩ := Gr.made sm h1 h2 hne g e
  have hs1 : Same B' (upd B' a (insRun K dx d l m)) := fun z u e => by
    have : B' a = none := g.new a _ (sm.free h1) upd_same
    rw [upd_ne (ne_of_none e this)]; exact e
  exact k _ _ _ g1 ⟨a, dx, d, l, m, rfl, g2, mono_mark _ _ _ _ hs1 hm⟩
def sp_outcome (K : PySem.W.Frag) : Sp := fun vs H Q _ => ∃ (v : V) (m : Mk0), vs = [v] ∧ rRun K m v H ∧ Q (.str (if m = .good then "in" else "out")) H
theorem ok_Run_outcome (T : Txt K mg) : FnOk P w K mg base CX0 1 (a_Run_outcome K) (fdOf K (a_Run_outcome K)) ["self"] (sp_outcome K) := by
  refine (f_Run_outcome T).ok sc_Run_outcome (fun vs H Q E h => ?_) (fun cdv A outer s H vs Q E hr h => ?_)
  · obtain ⟨v, m, rfl, _⟩ := h
    rfl
  · obtain ⟨v, m, rfl, ⟨a, dx, d, l, p, rfl, h1, hm⟩, k⟩ := h
    refine ⟨_, (pss_one (ps_ret (pe_ifExp (pt_cmpR (op_eqD hr.units) (pe_fld (pv 0) rfl) (pe_gr (by rfl) (g_GOOD T)) (nomark _)) (pe_gs (by rfl) (g_IN T)) (pe_gs (by rfl) (g_OUT T))))), ?_⟩
    refine ⟨_, rfl, a, _, dx, _, _, rfl, h1, cl_Run T, na_Run_mark T, rfl, mkDat m, mkDat .good, mk_dp hm, mk_dp ⟨_, rfl, t_GOOD T _⟩, mk_sh _, mk_sh _, decide (m = .good), by rw [mk_eq], ?_⟩
    by_cases c : m = .good
    · rw [if_pos c] at k
      rw [decide_eq_true c]
      exact iteT k
    · rw [if_neg c] at k
      rw [decide_eq_false c]
      exact iteF k
end
end Lg
/-! D9 -/
set_option maxHeartbeats 4000000
namespace Lg
open PySem L2
theorem putK_fresh {kvs : List (Key × V)} {k : Key} {v : V} (h : ∀ p ∈ kvs, p.1 ≠ k) : putK kvs k v = kvs ++ [(k, v)] := by
  unfold putK
  rw [if_neg]
  rw [List.any_eq_true]
  rintro ⟨p, hp, e⟩
  exact h p hp (of_decide_eq_true e)
def ansV (a : Ans) : List (Key × V) := a.map fun k => (Sum.inr k.1, V.str k.2)
theorem ansV_add {a : Ans} {x r : Str} (h : ∀ p ∈ a, p.1 ≠ x) : mergeK (ansV a) [(Sum.inr x, V.str r)] = ansV (a ++ [(x, r)]) := by
  show putK (ansV a) (Sum.inr x) (V.str r) = _
  rw [putK_fresh]
  · unfold ansV
    rw [List.map_append]
    rfl
  · intro p hp
    obtain ⟨q, hq, rfl⟩ := List.mem_map.mp hp
    exact fun e => h q hq (by injection e)
def stepA (found : List Ans) (name : Str) : List Ans := found.flatMap fun a => results.map fun r => a ++ [(name, r)]
theorem allAns_take {names : List Str} {i : Nat} {x : Str} (h : names[i]? = some x) : allAns (names.take (i + 1)) = stepA (allAns (names.take i)) x := by
  unfold allAns
  rw [List.take_succ, h, Option.toList_some, List.foldl_append]
  rfl
theorem stepA_len (found : List Ans) (x : Str) : (stepA found x).length = found.length * 4 := by
  unfold stepA
  rw [List.length_flatMap]
  simp only [List.length_map]
  show (found.map fun _ => 4).sum = _
  induction found with
  | nil => rfl
  | cons a l ih =>
    rw [List.map_cons, List.sum_cons, ih, List.length_cons]
    omega
theorem allAns_len (names : List Str) : ∀ i, i ≤ names.length → (allAns (names.take i)).length = 4 ^ i := by
  intro i
  induction i with
  | zero => intro _; rfl
  | succ i ih =>
    intro hi
    have hx : names[i]? = some names[i] := List.getElem?_eq_getElem hi
    rw [allAns_take hx, stepA_len, ih (by omega), Nat.pow_succ]
/-- the keys of the answers are the names -/
theorem allAns_keys (names : List Str) : ∀ i, i ≤ names.length → ∀ a ∈ allAns (names.take i), a.map (·.1) = names.take i ∧ ∀ p ∈ a, p.2 ∈ results := by
  intro i
  induction i with
  | zero =>
    intro _ a ha
    have : a = [] := List.mem_singleton.mp ha
    subst this
    exact ⟨rfl, fun p hp => (nomatch hp)⟩
  | succ i ih =>
    intro hi a ha
    have hx : names[i]? = some names[i] := List.getElem?_eq_getElem hi
    rw [allAns_take hx] at ha
    obtain ⟨b, hb, h2⟩ := List.mem_flatMap.mp ha
    obtain ⟨r, hr, rfl⟩ := List.mem_map.mp h2
    obtain ⟨k1, k2⟩ := ih (by omega) b hb
    refine ⟨?_, fun p hp => ?_⟩
    · rw [List.map_append, k1, List.take_succ, hx]
      rfl
    · rcases List.mem_append.mp hp with hp | hp
      · exact k2 p hp
      · rw [List.mem_singleton.mp hp]
        exact hr
section
variable {P : Program} {w : World} {K : PySem.W.Frag} {mg : Str → Option Value} {base : Heap}
def sp_all_answers (K : PySem.W.Frag) : Sp := fun vs H Q _ => ∃ (B : Hp) (a : Addr) (names : List Str), vs = [.ref a] ∧ (B a = some (.lst (names.map V.str)) ∨ SqT K B a (names.map V.str)) ∧ names.Nodup ∧ names.length ≤ 6 ∧ Same B H ∧ Ret B H (RLst ((allAns names).map rAns)) Q
theorem all_walk (T : Txt K mg) {J : It} {G : Hp → Prop} {names : List Str} (w : Walk J names.length G (YAt (names.map V.str))) {B H : Hp} (hG : ∀ B' H', Gr M0 B H B' H' → G H') (nd : names.Nodup) (h6 : names.length ≤ 6) {a D : Addr}
    (sm : Same B H) (hD : RLst [rAns []] (.ref D) B) {Ds : Ends} (hd : ∀ σ B' H' D' x, Gr M0 B H B' H' → RLst ((allAns names).map rAns) (.ref D') B' → σ = [some (.ref a), some (.ref D'), x, none, none] → Ds.nx σ H') :
    ∃ W : Nat → Nat → L2.St → Hp → Prop, (∃ m, W 0 m [some (.ref a), some (.ref D), none, none, none] H) ∧ ∀ i m σ H, W i m σ H →
      (J.stop i H ∧ Ds.nx σ H) ∨ (J.go i H ∧ ∃ N : L2.St → Hp → Prop, (∀ σ' H', N σ' H' → ∃ m', m' < m ∧ W (i + 1) m' σ' H') ∧ ∀ x H', J.yld i H x H' → gName 2 x σ H' fun σ2 H2 =>
        tAsg (tLc2 (iList K (tVar 1)) (gName 3) tYes (iTup K (tC (.ref (He.ga K "RESULTS")))) (gName 4) tYes (tOp rOrD (tVar 3) (tDisp [(tVar 2, tVar 4)])) [3, 4] [4]) (gName 1) { Ds with nx := N, ct := N, bk := Ds.nx } σ2 H2) := by
  refine for_it w (fun i σ H' => ∃ B' D' x, Gr M0 B H B' H' ∧ RLst ((allAns (names.take i)).map rAns) (.ref D') B' ∧ σ = [some (.ref a), some (.ref D'), x, none, none]) ⟨B, D, none, Gr.refl sm, hD, rfl⟩ (fun i σ H' hi pv => ?_) (fun i x σ H' H2 hi pv y => ?_) (fun σ H' pv => ?_)
  · obtain ⟨B', D', x, g, _⟩ := pv
    exact hG B' H' g
  · obtain ⟨B', D', x0, g, ⟨D2, ys, e2, hL, hP⟩, rfl⟩ := pv
    cases e2
    obtain ⟨rfl, hx⟩ := y
    rw [List.getElem?_map] at hx
    cases hn : names[i]? with
    | none => rw [hn] at hx; cases hx
    | some name =>
      rw [hn] at hx
      cases hx
      have hle : (allAns (names.take i)).length = ys.length := by have := hP.length; rwa [List.length_map] at this
      have hi' : i ≤ names.length := by omega
      have h4 := allAns_len names i hi'
      have hp4 : 4 ^ i ≤ 4 ^ 6 := Nat.pow_le_pow_right (by decide) (by omega)
      have hall := allAns_keys names i hi'
      have hnew : name ∉ names.take i := by
        intro z
        obtain ⟨j, hj, e⟩ := List.mem_iff_getElem.mp z
        rw [List.getElem_take] at e
        have hj' : j < i := by
          rw [List.length_take] at hj
          omega
        have hi2 : i < names.length := by simpa using hi
        have e1 : names[i] = name := (List.getElem?_eq_some_iff.mp hn).2
        exact List.pairwise_iff_getElem.mp nd j i (by omega) hi2 hj' (by rw [e, e1])
      have hBD' := g.sub _ _ hL
      refine ⟨_, rfl, D', rfl, ⟨ys, SqL.of hBD'⟩, fun E2 hE2 => ?_⟩
      have hBE : B' E2 = none := g.sub.free hE2
      refine lc2_it (walk_list (xs := ys)) (fun j H3 => ∃ B2 acc, Gr M0 B' H2 B2 H3 ∧ B2 E2 = none ∧ H3 E2 = some (.lst acc) ∧ PairR ((stepA ((allAns (names.take i)).take j) name).map rAns) acc B2) ?_ (fun j H3 _ pv => ?_) (fun j x H3 H4 hj pv y => ?_) (fun H3 pv => ?_)
      · exact ⟨B', [], (Gr.refl g.sub).mut hBE (.inl hE2), hBE, upd_same, trivial⟩
      · obtain ⟨B2, acc, g2, _⟩ := pv
        exact SqL.of (g2.sub _ _ (g2.base _ _ hL))
      · obtain ⟨B2, acc, g2, hB2, hH3, hP2⟩ := pv
        obtain ⟨rfl, hxj⟩ := y
        obtain ⟨R, hR, hxR⟩ := hP.at_ hxj
        rw [List.getElem?_map] at hR
        cases hd' : (allAns (names.take i))[j]? with
        | none => rw [hd'] at hR; cases hR
        | some d =>
          rw [hd'] at hR
          cases hR
          have hdm := List.mem_of_getElem? hd'
          obtain ⟨hk1, hk2⟩ := hall d hdm
          have hfresh : ∀ p ∈ d, p.1 ≠ name := fun p hp e => hnew (by rw [← hk1]; exact List.mem_map.mpr ⟨p, hp, e⟩)
          obtain ⟨dp, rfl, hdp⟩ := hxR
          have hst : stepA ((allAns (names.take i)).take (j + 1)) name = stepA ((allAns (names.take i)).take j) name ++ results.map fun r => d ++ [(name, r)] := by
            rw [List.take_succ, hd']
            unfold stepA
            rw [List.flatMap_append]
            simp
          refine ⟨rfl, _, rfl, ⟨_, t_RESULTS T _⟩, ?_⟩
          refine lc2_in (walk_tup (xs := results.map V.str)) (fun k H5 => ∃ B3 acc, Gr M0 B' H2 B3 H5 ∧ B3 E2 = none ∧ H5 E2 = some (.lst acc) ∧ PairR ((stepA ((allAns (names.take i)).take j) name ++ (results.take k).map fun r => d ++ [(name, r)]).map rAns) acc B3) ?_ (fun k H5 _ pv => t_RESULTS T _) (fun k x H5 H6 hk pv y => ?_) (fun H5 pv => ?_)
          · refine ⟨B2, acc, g2, hB2, hH3, ?_⟩
            rw [List.take_zero, List.map_nil, List.append_nil]
            exact hP2
          · obtain ⟨B3, acc3, g3, hB3, hH5, hP3⟩ := pv
            obtain ⟨rfl, hxk⟩ := y
            rw [List.getElem?_map] at hxk
            cases hr' : results[k]? with
            | none => rw [hr'] at hxk; cases hxk
            | some r =>
              rw [hr'] at hxk
              cases hxk
              have hl3 := hP3.length
              rw [List.length_map, List.length_append, List.length_map, stepA_len, List.length_take, List.length_take] at hl3
              have hz3 : acc3.length ≤ 1000 * 1000 := by
                have h1 : (results : List Str).length = 4 := rfl
                omega
              have hd5 := g3.sub _ _ (g3.base _ _ hdp)
              refine ⟨rfl, _, rfl, fun p hp => ⟨_, rfl, _, rfl, upd_same, [(Sum.inr name, V.str r)], rfl, (show 1 ≤ 15 by decide), dp, p, ansV d, [(Sum.inr name, V.str r)], rfl, rfl, ?_, upd_same, ?_, fun q hq => ?_⟩⟩
              · have hne := ne_of_none hd5 hp
                rw [upd_ne hne, upd_ne hne]
                exact hd5
              · have h1 : d.length ≤ 6 := by
                  have := congrArg List.length hk1
                  rw [List.length_map, List.length_take] at this
                  omega
                have h2 : (ansV d).length = d.length := List.length_map ..
                rw [h2, List.length_singleton]
                omega
              · have hq5 := hq
                have gp := g3.then0 (Gr.hid (o := .dK []) g3.sub hp)
                have hBp : B3 p = none := g3.sub.free hp
                have gp2 : Gr M0 B' H2 B3 (upd (upd H6 p (.dK [])) p (.dK (mergeK [] [(Sum.inr name, V.str r)]))) := by
                  rw [upd_upd]
                  exact g3.then0 (Gr.hid (o := .dK (mergeK [] [(Sum.inr name, V.str r)])) g3.sub hp)
                have gq := gp2.then0 (Gr.lay (o := .dK (mergeK (ansV d) [(Sum.inr name, V.str r)])) gp2.sub hq)
                have hE5 : (upd (upd (upd H6 p (.dK [])) p (.dK (mergeK [] [(Sum.inr name, V.str r)]))) q (.dK (mergeK (ansV d) [(Sum.inr name, V.str r)]))) E2 = some (.lst acc3) := by
                  have hne := ne_of_none hH5 hp
                  have e1 : (upd (upd H6 p (.dK [])) p (.dK (mergeK [] [(Sum.inr name, V.str r)]))) E2 = some (.lst acc3) := by
                    rw [upd_ne hne, upd_ne hne]
                    exact hH5
                  rw [upd_ne (ne_of_none e1 hq)]
                  exact e1
                have hBq : (upd B3 q (.dK (mergeK (ansV d) [(Sum.inr name, V.str r)]))) E2 = none := by
                  have hne : E2 ≠ q := by
                    rintro rfl
                    have hne := ne_of_none hH5 hp
                    rw [upd_ne hne, upd_ne hne, hH5] at hq
                    cases hq
                  rw [upd_ne hne]
                  exact hB3
                refine ⟨acc3, hE5, line_lt (by omega), _, _, Gr.mut gq hBq (.inl hE2), hBq, upd_same, ?_⟩
                have ek : results.take (k + 1) = results.take k ++ [r] := by
                  rw [List.take_succ, hr']
                  rfl
                rw [ek, show List.map (fun r => d ++ [(name, r)]) (results.take k ++ [r]) = List.map (fun r => d ++ [(name, r)]) (results.take k) ++ [d ++ [(name, r)]] from List.map_append, ← List.append_assoc, List.map_append]
                refine (hP3.mono ?_ (mem_map_mono mono_ans)).app ⟨⟨q, rfl, ?_⟩, trivial⟩
                · intro z u e
                  have : B3 q = none := gp2.sub.free hq
                  rw [upd_ne (ne_of_none e this)]
                  exact e
                · rw [upd_same, ansV_add hfresh]
                  rfl
          · obtain ⟨B3, acc3, g3, hB3, hH5, hP3⟩ := pv
            refine ⟨B3, acc3, g3, hB3, hH5, ?_⟩
            rw [hst]
            have : (results.map V.str).length = results.length := List.length_map ..
            rw [this, List.take_length] at hP3
            exact hP3
      · obtain ⟨B2, acc, g2, hB2, hH3, hP2⟩ := pv
        rw [← hle, List.take_length, ← allAns_take hn] at hP2
        have hO : Gr M0 B' H2 (upd B2 E2 (.lst acc)) H3 := g2.tell hE2 hH3 hB2
        exact ⟨_, E2, _, g.then0 hO, ⟨E2, acc, rfl, upd_same, hP2.mono (fun z u e => by rw [upd_ne (ne_of_none e hB2)]; exact e) (mem_map_mono mono_ans)⟩, rfl⟩
  · obtain ⟨B', D', x, g, hL, rfl⟩ := pv
    rw [List.take_length] at hL
    exact hd _ B' H' D' x g hL rfl
theorem ok_all_answers (T : Txt K mg) : FnOk P w K mg base CX0 1 (a_all_answers K) (fdOf K (a_all_answers K)) ["modules"] (sp_all_answers K) := by
  refine (f_all_answers T).ok sc_all_answers (fun vs H Q E h => ?_) (fun cdv A outer s H vs Q E hr h => ?_)
  · obtain ⟨B, a, names, rfl, _⟩ := h
    rfl
  · obtain ⟨B, a, names, rfl, hm, nd, h6, sm, k⟩ := h
    refine ⟨_, (pss_cons (ps_set (i := 1) sc_all_answers.nd rfl (Or.inl rfl) (pe_lst (pa_cons pe_dnewK pa_nil))) (pss_cons (ps_for PassesOwn.never rfl (pi_seq (pv 0)) (pg_name (i := 2) sc_all_answers.nd rfl (Or.inr rfl)) (pss_one (ps_setLc2 (i := 1) (own := [("answers", 3), ("result", 4)]) (by rfl) sc_all_answers.nd rfl rfl (sw_true rfl rfl rfl (by decide +kernel)) (pi_list (pv 1)) (blkOk_by (own := [("answers", 3), ("result", 4)]) (N := N_all_answers) (sc := defScope s_all_answers) (by decide +kernel)) (vs1 := [4]) (by decide) (fun _ _ _ _ _ => (pg_name (i := 3) sc_all_answers.nd rfl (Or.inl rfl))) (fun _ _ _ _ _ => pts_nil) (fun _ _ _ _ _ => (pi_tupB K (pe_gr (by rfl) (g_RESULTS T)))) (fun _ _ _ _ _ => (pg_name (i := 4) sc_all_answers.nd rfl (Or.inl rfl))) (fun _ _ _ _ _ => pts_nil) (fun _ _ _ _ _ => (pe_op op_orD (pv 3) (pe_disp (pps_cons (pv 2) (pv 4) pps_nil) (by rfl) (by rfl) (fun z => by cases z) (by decide))))))) (pss_one (ps_ret (pv 1))))), ?_⟩
    refine fun p hp => ⟨line_le (show 1 ≤ 1000000 by decide), fun D hD => ?_⟩
    have g1 : Gr M0 B H _ _ := Gr.lay (o := .dK []) sm hp
    have g2 := g1.then0 (Gr.lay (o := .lst [.ref p]) g1.sub hD)
    have hL : RLst [rAns []] (.ref D) (upd (upd B p (.dK [])) D (.lst [.ref p])) := ⟨D, [.ref p], rfl, upd_same, ⟨p, rfl, by rw [upd_ne (ne_of_none upd_same (g1.sub.free hD))]; exact upd_same⟩, trivial⟩
    rcases hm with hm | hm
    · refine Or.inl ⟨_, rfl, a, rfl, ⟨_, sqL_B g2 hm⟩, ?_⟩
      refine all_walk T (a := a) (by have h := walk_list (K := K) (a := a) (xs := names.map V.str); rw [List.length_map] at h; exact h) (fun B' H' g => sqL_B (g2.then0 g) hm) nd h6 g2.sub hL (Ds := ⟨tRet (tVar 1) ⟨fun _ H' => Q .non H', _, _, _⟩, _, _, _⟩) (fun σ B' H' D' x g hL e => ?_)
      subst e
      exact ⟨_, rfl, k _ _ _ (g2.then0 g) hL⟩
    · refine Or.inr ⟨_, rfl, a, rfl, ⟨_, sqT_B g2 hm⟩, ?_⟩
      refine all_walk T (a := a) (by have h := walk_tup (K := K) (a := a) (xs := names.map V.str); rw [List.length_map] at h; exact h) (fun B' H' g => sqT_B (g2.then0 g) hm) nd h6 g2.sub hL (Ds := ⟨tRet (tVar 1) ⟨fun _ H' => Q .non H', _, _, _⟩, _, _, _⟩) (fun σ B' H' D' x g hL e => ?_)
      subst e
      exact ⟨_, rfl, k _ _ _ (g2.then0 g) hL⟩
end
end Lg
/-! D10 -/
set_option maxHeartbeats 4000000
namespace Lg
open PySem L2
theorem lookup_mem {a : Ans} {x : Str} (h : x ∈ a.map (·.1)) : ∃ r, a.lookup x = some r ∧ (x, r) ∈ a := by
  induction a with
  | nil => simp at h
  | cons k a ih =>
    obtain ⟨k1, k2⟩ := k
    by_cases e : x = k1
    · subst e
      exact ⟨k2, by simp [List.lookup], List.mem_cons_self⟩
    · have h2 : x ∈ a.map (·.1) := by
        rcases List.mem_cons.mp h with z | z
        · exact absurd z e
        · exact z
      obtain ⟨r, hr, hm⟩ := ih h2
      refine ⟨r, ?_, List.mem_cons_of_mem _ hm⟩
      rw [List.lookup, beq_eq_false_iff_ne.mpr e]
      exact hr
theorem allAns_full {names : List Str} {a : Ans} (h : a ∈ allAns names) : a.map (·.1) = names ∧ ∀ p ∈ a, p.2 ∈ results := by
  have := allAns_keys names names.length (Nat.le_refl _) a
  rw [List.take_length] at this
  exact this h
theorem cov_all {es : List En} {a : Ans} {names : List Str} (ha : a ∈ allAns names) (hs : ∀ x ∈ rulesOf es, x.1 ∈ names) : Cov a es := by
  obtain ⟨h1, h2⟩ := allAns_full ha
  intro x hx
  obtain ⟨r, hr, hm⟩ := lookup_mem (a := a) (x := x.1) (by rw [h1]; exact hs x hx)
  exact ⟨r, hr, h2 _ hm⟩
theorem mods_mem {es : List En} {x : Ru} (h : x ∈ rulesOf es) : x.1 ∈ modsOf es := mem_sortS.mpr (List.mem_map.mpr ⟨x, h, rfl⟩)
section
variable {P : Program} {w : World} {K : PySem.W.Frag} {mg : Str → Option Value} {base : Heap}
/-- a row: a dict, a text -/
def rRow (K : PySem.W.Frag) (r : Ans × Str) : Rp := fun v B => ∃ t d, v = .ref t ∧ SqT K B t [.ref d, .str r.2] ∧ B d = some (.dK (ansV r.1))
theorem mono_row (r : Ans × Str) : Mono (rRow K r) := fun _ _ _ s ⟨t, d, e, h, h2⟩ => ⟨t, d, e, sqT_same s h, s _ _ h2⟩
/-- what one run answers, as part of an expression -/
theorem run_use {H : Hp} {Q : VK} {B : Hp} {es : List En} {b : Ans} {v : V} (hv : rRun K (runE b .none es 0 0 .none) v B) (sm : Same B H) (k : Q (.str (leads es b)) H) :
    ∃ a dx fs, v = .ref a ∧ H a = some (.ins (c_Run K) dx fs) ∧ fs.lookup ("outcome" : Str) = none ∧ sp_outcome K [v] H Q E0 := by
  obtain ⟨ra, rdx, rd, rl, rp, rfl, hra, hrm⟩ := id hv
  refine ⟨ra, rdx, _, rfl, sm _ _ hra, rfl, _, _, rfl, ⟨ra, rdx, rd, rl, rp, rfl, sm _ _ hra, mono_mark _ _ _ _ sm hrm⟩, k⟩
def sp_outcomes (K : PySem.W.Frag) : Sp := fun vs H Q _ => ∃ (B : Hp) (v : V) (es : List En), vs = [v] ∧ rStack K es v B ∧ OkS es ∧ Same B H ∧ Ret B H (RLst ((rowsOf es).map (rRow K))) Q
theorem ok_outcomes (T : Txt K mg) : FnOk P w K mg base CX0 7 (a_outcomes K) (fdOf K (a_outcomes K)) ["stack"] (sp_outcomes K) := by
  refine (f_outcomes T).ok sc_outcomes (fun vs H Q E h => ?_) (fun cdv A outer s H vs Q E hr h => ?_)
  · obtain ⟨B, v, es, rfl, _⟩ := h
    rfl
  · obtain ⟨B, v, es, rfl, hv, ok, sm, k⟩ := h
    obtain ⟨a, dx, p, st, n, xs, ws, rfl, h1, h2, h3, h4, h5, h6⟩ := id hv
    refine ⟨_, (pss_one (ps_ret (pe_lc (own := [("answers", 1)]) (by rfl) sc_outcomes.nd (pi_list (pe_call (ok_all_answers T) (hr.mono (by decide)) (by rfl) (g_all_answers T) (f_all_answers T).kp (b_all_answers T) .nil pass0 (pa_cons (pe_fld (pv 0) rfl) pa_nil))) (blkOk_by (own := [("answers", 1)]) (N := N_outcomes) (sc := defScope s_outcomes) (by decide +kernel)) (fun _ _ _ _ _ => (pg_name (i := 1) sc_outcomes.nd rfl (Or.inl rfl))) (fun _ _ _ _ _ => pts_nil) (fun _ _ _ _ _ => (pe_tup (pa_cons (pv 1) (pa_cons (pe_meth0 (pe_make (mk_Run T) (ok_Run_init T) (hr.mono (by decide)) (by rfl) (g_Run T) (b_Run_init T) .nil pass0 (pa_cons (pv 0) (pa_cons (pv 1) pa_nil))) (cl_Run T) (m_Run_outcome T) (ok_Run_outcome T) (hr.mono (by decide)) (b_Run_outcome T) .nil pass0) pa_nil))))))), ?_⟩
    refine ⟨_, rfl, a, _, dx, _, _, rfl, sm _ _ h1, cl_Stack T, na_Stack_names T, rfl, B, n, modsOf es, rfl, .inr h6, nodup_sortS _, ok.ml, sm, fun v B1 H1 g1 hv1 => ?_⟩
    obtain ⟨L, ys, rfl, hL, hP⟩ := hv1
    refine ⟨L, rfl, ⟨ys, SqL.of (g1.sub _ _ hL)⟩, fun D hD => ?_⟩
    have hlen : (allAns (modsOf es)).length ≤ 1000000 := by
      have := allAns_len (modsOf es) (modsOf es).length (Nat.le_refl _)
      rw [List.take_length] at this
      have h2 : 4 ^ (modsOf es).length ≤ 4 ^ 6 := Nat.pow_le_pow_right (by decide) ok.ml
      omega
    refine lc_dat (walk_list (xs := ys)) (M := M0) (B1 := B1) (allAns (modsOf es)) (fun _ => true) rAns (fun b => rRow K (b, leads es b)) mono_ans (fun b => mono_row _) hP rfl g1.sub hD mok0 hlen (fun B2 H2 g => sqL_B g hL) (fun b x B2 H2 hb hx g Ky Kn ky kn => ?_) (fun zs B2 H2 g hz hP2 => ?_)
    · obtain ⟨d, rfl, hd⟩ := hx
      refine ⟨rfl, _, rfl, ?_⟩
      refine ⟨_, rfl, _, rfl, ?_⟩
      dsimp only [tNil]
      refine mk_run (B := B2) (es := es) (ans := b) (mono_stack es _ _ _ (g1.base.trans g.base) hv) ok hd (cov_all hb fun x hx => mods_mem hx) g.sub (fun v B3 H3 g3 hv3 => ?_)
      refine run_use hv3 g3.sub ?_
      refine ⟨line_le (show 2 ≤ 1000000 by decide), fun t ht => ?_⟩
      refine ky rfl _ _ _ (g3.then0 (Gr.lay g3.sub ht)) ⟨t, d, rfl, .inl (.inl upd_same), ?_⟩
      have hd3 := g3.base _ _ hd
      rw [upd_ne (ne_of_none hd3 (g3.sub.free ht))]
      exact hd3
    · rw [filter_all] at hP2
      refine k _ _ _ (g1.then0 g) ⟨D, zs, rfl, hz, ?_⟩
      unfold rowsOf
      rw [List.map_map]
      exact hP2
/-- known: each of its names is one of the answers' -/
def Sub (k a : Ans) : Prop := ∀ p ∈ k, p.1 ∈ a.map (·.1)
theorem sEq2 (x y : Str) : decide (V.str x = V.str y) = (x == y) := by
  rw [Bool.eq_iff_iff, beq_iff_eq, decide_eq_true_iff, V.str.injEq]
def sp_agrees : Sp := fun vs H Q _ => ∃ (B : Hp) (d e : Addr) (a kn : Ans), vs = [.ref d, .ref e] ∧ B d = some (.dK (ansV a)) ∧ B e = some (.dK (ansV kn)) ∧ Sub kn a ∧ kn.length ≤ 1000 ∧ Same B H ∧ Ret B H (RV (.bl (agree a kn))) Q
theorem valV_get {a : Ans} {x : Str} (h : x ∈ a.map (·.1)) : valV (ansV a) (Sum.inr x) = some (.str (get a x)) := by
  obtain ⟨r, hr, _⟩ := lookup_mem h
  unfold ansV
  rw [valV_ans, hr]
  unfold get
  rw [hr]
  rfl
theorem ok_agrees (T : Txt K mg) : FnOk P w K mg base CX0 1 (a_agrees K) (fdOf K (a_agrees K)) ["answers", "known"] sp_agrees := by
  refine (f_agrees T).ok sc_agrees (fun vs H Q E h => ?_) (fun cdv A outer s H vs Q E hr h => ?_)
  · obtain ⟨B, d, e, a, kn, rfl, _⟩ := h
    rfl
  · obtain ⟨B, d, e, a, kn, rfl, hd, he, hsub, hl, sm, k⟩ := h
    refine ⟨_, (pss_one (ps_ret (pe_callB (cr_all rfl) (by rfl) (n_all T) (by decide +kernel) (pa_cons (pe_lock (pe_lc (own := [("name", 2), ("result", 3)]) (by rfl) sc_agrees.nd (pi_items (pv 1)) (blkOk_by (own := [("name", 2), ("result", 3)]) (N := N_agrees) (sc := defScope s_agrees) (by decide +kernel)) (fun _ _ _ _ _ => (pg_tupB K 2 rfl (pgs_cons (pg_name (i := 2) sc_agrees.nd rfl (Or.inl rfl)) (pgs_cons (pg_name (i := 3) sc_agrees.nd rfl (Or.inl rfl)) pgs_nil)))) (fun _ _ _ _ _ => pts_nil) (fun _ _ _ _ _ => (pe_cmpR op_eq (pe_dget (hu_of hr) (pv 0) (pv 2) (fun _ _ => rfl)) (pv 3) (nomark _))))) pa_nil)))), ?_⟩
    refine ⟨e, _, sm _ _ he, trivial, fun od => ?_⟩
    have g0 : Gr M0 (off B e) (upd H e (.frz od (.dK (ansV kn)))) (off B e) (upd H e (.frz od (.dK (ansV kn)))) := Gr.refl (lock_same sm)
    refine ⟨_, rfl, e, od, ansV kn, rfl, upd_same, fun D hD => ?_⟩
    have hDe : D ≠ e := by
      rintro rfl
      rw [upd_same] at hD
      cases hD
    have hnl : (ansV kn).length = kn.length := List.length_map ..
    refine lc_sel (walk_items (d := e) (o := od) (kvs := ansV kn)) (M := M0) (B1 := off B e) (fun i => (kn[i]?).map fun p => RV (.bl (get a p.1 == p.2))) (lock_same sm) hD mok0 (line_lt (by omega)) (fun B2 H2 g => g.keep e _ (fun z => z) upd_same) (fun i R h => ?_) (fun i x B2 H2 H3 hi g y Ky Kn ky kn' => ?_) (fun ys B2 H2 g h2 hP => ?_)
    · cases q : kn[i]? with
      | none => rw [q] at h; cases h
      | some p => rw [q] at h; cases h; exact mono_v _
    · obtain ⟨Tp, x1, x2, rfl, hTp, rfl, e1, e2⟩ := y
      cases q : kn[i]? with
      | none =>
        rw [hnl] at hi
        rw [List.getElem?_eq_getElem hi] at q
        cases q
      | some p =>
        have eq1 : (ansV kn)[i]? = some (Sum.inr p.1, V.str p.2) := by
          unfold ansV
          rw [List.getElem?_map, q]
          rfl
        dsimp only at e1 e2
        rw [eq1] at e1 e2
        cases e1
        cases e2
        have g2 := g.then0 (Gr.hid (o := .tup [V.str p.1, V.str p.2]) g.sub hTp)
        have hin : p.1 ∈ a.map (·.1) := hsub p (List.mem_of_getElem? q)
        refine ⟨Tp, _, rfl, .inl (.inl upd_same), rfl, _, _, rfl, _, _, rfl, rfl, rfl, ?_⟩
        refine ⟨_, rfl, _, rfl, d, .str (get a p.1), rfl, .inl ⟨ansV a, Sum.inr p.1, ?_, rfl, (valV_get hin).symm⟩, _, rfl, rfl, ?_⟩
        · by_cases hde : d = e
          · subst hde
            have e7 : ansV a = ansV kn := by
              have := hd.symm.trans he
              injection this with this
              injection this
            rw [e7]
            exact .inr ⟨od, g2.keep d _ (fun z => z) upd_same⟩
          · exact .inl (g2.keep d _ (fun z => z) (by rw [upd_ne hde]; exact sm _ _ hd))
        · rw [sEq2]
          exact ky _ (by rw [q]; rfl) _ B2 _ (Gr.hid g.sub hTp) rfl
    · have e5 : selN (fun i => (kn[i]?).map fun p => RV (.bl (get a p.1 == p.2))) (ansV kn).length = kn.map fun p => RV (.bl (get a p.1 == p.2)) := by
        rw [hnl]
        have h := selN_all (kn.map fun p => RV (.bl (get a p.1 == p.2)))
        simpa using h
      rw [e5] at hP
      have e6 := PairR.of_consts (fun p : Str × Str => V.bl (get a p.1 == p.2)) hP
      obtain ⟨hf, gu⟩ := Gr.unlock sm he (fun z => z) g
      refine ⟨hf, D, kn.map fun p => (get a p.1 == p.2), rfl, ?_, ?_⟩
      · rw [List.map_map]
        have h3 : (upd H2 e (.dK (ansV kn))) D = some (.lst ys) := by
          rw [upd_ne hDe]
          exact g.sub _ _ h2
        exact SqL.of (by rw [h3, e6]; rfl)
      · have : (kn.map fun p => (get a p.1 == p.2)).all id = agree a kn := by
          unfold agree
          rw [List.all_map]
          rfl
        rw [this]
        exact k _ _ _ gu rfl
def sp_where_all (K : PySem.W.Frag) : Sp := fun vs H Q _ => ∃ (B : Hp) (v : V) (e : Addr) (rows : Rows) (kn : Ans), vs = [v, .ref e] ∧ RLst (rows.map (rRow K)) v B ∧ B e = some (.dK (ansV kn)) ∧ (∀ r ∈ rows, Sub kn r.1) ∧ kn.length ≤ 1000 ∧ rows.length ≤ 4096 ∧
  ((rows.filter fun r => agree r.1 kn).map (·.2)).length ≤ 4000 ∧ Same B H ∧ Ret B H (RV (.str (settle rows kn))) Q
def oneOf : List Str → Str
  | [x] => x
  | _ => "open"
theorem settle_eq (rows : Rows) (kn : Ans) (xs : List Str) (h : sortS ((rows.filter fun r => agree r.1 kn).map (·.2)) = xs) : settle rows kn = oneOf xs := by
  subst h
  unfold settle
  generalize sortS _ = ys
  match ys with
  | [] => rfl
  | [x] => rfl
  | _ :: _ :: _ => rfl
theorem ok_where_all (T : Txt K mg) : FnOk P w K mg base CX0 2 (a_where_all K) (fdOf K (a_where_all K)) ["rows", "known"] (sp_where_all K) := by
  refine (f_where_all T).ok sc_where_all (fun vs H Q E h => ?_) (fun cdv A outer s H vs Q E hr h => ?_)
  · obtain ⟨B, v, e, rows, kn, rfl, _⟩ := h
    rfl
  · obtain ⟨B, v, e, rows, kn, rfl, ⟨L, ys, rfl, hL, hP⟩, he, hsub, hkl, hrl, hfl, sm, k⟩ := h
    refine ⟨_, (pss_cons (ps_set (i := 2) sc_where_all.nd rfl (Or.inl rfl) (pe_callTy (cr_setS rfl) (by rfl) (n_set T) (by decide +kernel) (pa_cons (pe_lc (own := [("answers", 3), ("where", 4)]) (by rfl) sc_where_all.nd (pi_list (pv 0)) (blkOk_by (own := [("answers", 3), ("where", 4)]) (N := N_where_all) (sc := defScope s_where_all) (by decide +kernel)) (fun _ _ _ _ _ => (pg_tupB K 2 rfl (pgs_cons (pg_name (i := 3) sc_where_all.nd rfl (Or.inl rfl)) (pgs_cons (pg_name (i := 4) sc_where_all.nd rfl (Or.inl rfl)) pgs_nil)))) (fun _ _ _ _ _ => (pts_one (pt_val (pe_call (ok_agrees T) (hr.mono (by decide)) (by rfl) (g_agrees T) (f_agrees T).kp (b_agrees T) .nil pass0 (pa_cons (pv 3) (pa_cons (pv 1) pa_nil)))))) (fun _ _ _ _ _ => (pv 4))) pa_nil))) (pss_one (ps_ret (pe_ifExp (pt_cmpR op_eq (pe_callB cr_lenSet (by rfl) (n_len T) (by decide +kernel) (pa_cons (pv 2) pa_nil)) pe_int (nomark _)) (pe_ix ix_seq (pe_callB (cr_sortSet rfl) (by rfl) (n_sorted T) (by decide +kernel) (pa_cons (pv 2) pa_nil)) pe_int (fun _ _ => rfl)) (pe_gs (by rfl) (g_OPEN T)))))), ?_⟩
    refine ⟨_, rfl, L, rfl, ⟨ys, SqL.of (sm _ _ hL)⟩, fun D hD => ?_⟩
    refine lc_dat (walk_list (xs := ys)) (M := M0) (B1 := B) rows (fun r => agree r.1 kn) (rRow K) (fun r => RV (.str r.2)) mono_row (fun _ => mono_v _) hP rfl sm hD mok0 (by omega) (fun B2 H2 g => sqL_B g hL) (fun r x B2 H2 hr2 hx g Ky Kn ky kn2 => ?_) (fun zs B2 H2 g hz hP2 => ?_)
    · obtain ⟨t, d, rfl, ht, hd⟩ := hx
      refine ⟨t, _, rfl, sqT_same g.sub ht, rfl, _, _, rfl, _, _, rfl, rfl, rfl, ?_⟩
      refine ⟨_, rfl, _, rfl, B2, d, e, r.1, kn, rfl, hd, g.base _ _ he, hsub r hr2, hkl, g.sub, fun v B3 H3 g3 ev => ?_⟩
      cases ev
      refine ⟨_, rfl, ?_⟩
      cases c : agree r.1 kn with
      | true => exact iteT ⟨_, rfl, ky c _ _ _ g3 rfl⟩
      | false => exact iteF (kn2 c _ _ g3)
    · have e2 := PairR.of_consts (fun r : Ans × Str => V.str r.2) hP2
      subst e2
      have hz' : (List.map (fun r : Ans × Str => V.str r.2) (rows.filter fun r => agree r.1 kn)) = ((rows.filter fun r => agree r.1 kn).map (·.2)).map V.str := by
        rw [List.map_map]
        rfl
      rw [hz'] at hz
      refine ⟨D, _, rfl, .inl (SqL.of (g.sub _ _ hz)), hfl, fun p hp => ?_⟩
      have g1 := g.then0 (Gr.hid (o := SetSO w p ((rows.filter fun r => agree r.1 kn).map (·.2))) g.sub hp)
      refine ⟨_, rfl, p, _, rfl, upd_same, rfl, ?_⟩
      generalize hxs : sortS ((rows.filter fun r => agree r.1 kn).map (·.2)) = xs
      have hset := settle_eq rows kn xs hxs
      by_cases c : xs.length = 1
      · obtain ⟨x, rfl⟩ : ∃ x, xs = [x] := by
          match xs, c with
          | [x], _ => exact ⟨x, rfl⟩
        refine ⟨true, rfl, iteT ⟨_, rfl, p, _, rfl, upd_same, hfl, fun q hq => ?_⟩⟩
        have g2 := g1.then0 (Gr.hid (o := .lst ((sortS ((rows.filter fun r => agree r.1 kn).map (·.2))).map V.str)) g1.sub hq)
        refine .inl ⟨q, _, 0, .str x, rfl, rfl, SqL.of upd_same, ?_, ?_⟩
        · rw [hxs]
          rfl
        · exact k _ _ _ g2 (by rw [hset]; rfl)
      · refine ⟨false, ?_, iteF ?_⟩
        · show V.bl (decide (V.int (xs.length : Int) = V.int 1)) = V.bl false
          rw [decide_eq_false]
          intro z
          injection z with z
          omega
        · have : settle rows kn = "open" := by
            rw [hset]
            clear hset hxs
            match xs, c with
            | [], _ => rfl
            | [x], c => exact absurd rfl c
            | _ :: _ :: _, _ => rfl
          exact k _ _ _ g1 (by rw [this])
/-- a row of two results -/
def rRow3 (K : PySem.W.Frag) (x : Ans × Str × Str) : Rp := fun v B => ∃ t d, v = .ref t ∧ SqT K B t [.ref d, .str x.2.1, .str x.2.2] ∧ B d = some (.dK (ansV x.1))
theorem mono_row3 (r : Ans × Str × Str) : Mono (rRow3 K r) := fun _ _ _ s ⟨t, d, e, h, h2⟩ => ⟨t, d, e, sqT_same s h, s _ _ h2⟩
def bothMods (es fs : List En) : List Str := sortS (modsOf es ++ modsOf fs)
def bothRows (es fs : List En) : List (Ans × Str × Str) := (allAns (bothMods es fs)).map fun a => (a, leads es a, leads fs a)
def sp_both (K : PySem.W.Frag) : Sp := fun vs H Q _ => ∃ (B : Hp) (v u : V) (es fs : List En), vs = [v, u] ∧ rStack K es v B ∧ rStack K fs u B ∧ OkS es ∧ OkS fs ∧ (bothMods es fs).length ≤ 6 ∧ Same B H ∧ Ret B H (RLst ((bothRows es fs).map (rRow3 K))) Q
theorem ok_both_outcomes (T : Txt K mg) : FnOk P w K mg base CX0 7 (a_both_outcomes K) (fdOf K (a_both_outcomes K)) ["one", "other"] (sp_both K) := by
  refine (f_both_outcomes T).ok sc_both_outcomes (fun vs H Q E h => ?_) (fun cdv A outer s H vs Q E hr h => ?_)
  · obtain ⟨B, v, u, es, fs, rfl, _⟩ := h
    rfl
  · obtain ⟨B, v, u, es, fs, rfl, hv, hu, ok, ok2, h6, sm, k⟩ := h
    obtain ⟨a, dx, p, st, n, xs, ws, rfl, h1, _, _, _, _, hn⟩ := id hv
    obtain ⟨b, dy, p', st', n', xs', ws', rfl, k1, _, _, _, _, hn'⟩ := id hu
    refine ⟨_, (pss_cons (ps_set (i := 2) sc_both_outcomes.nd rfl (Or.inl rfl) (pe_callB (cr_sortSet rfl) (by rfl) (n_sorted T) (by decide +kernel) (pa_cons (pe_callTy (cr_setS rfl) (by rfl) (n_set T) (by decide +kernel) (pa_cons (pe_op op_addU (pe_fld (pv 0) rfl) (pe_fld (pv 1) rfl)) pa_nil)) pa_nil))) (pss_cons (ps_if (pt_cmpR op_gt (pe_callB call_len_seq (by rfl) (n_len T) (by decide +kernel) (pa_cons (pv 2) pa_nil)) (pe_gi (by rfl) (g_MOST_MODULES T)) (nomark _)) (pss_one ps_never) pss_nil) (pss_one (ps_ret (pe_lc (own := [("answers", 3)]) (by rfl) sc_both_outcomes.nd (pi_list (pe_call (ok_all_answers T) (hr.mono (by decide)) (by rfl) (g_all_answers T) (f_all_answers T).kp (b_all_answers T) .nil pass0 (pa_cons (pv 2) pa_nil))) (blkOk_by (own := [("answers", 3)]) (N := N_both_outcomes) (sc := defScope s_both_outcomes) (by decide +kernel)) (fun _ _ _ _ _ => (pg_name (i := 3) sc_both_outcomes.nd rfl (Or.inl rfl))) (fun _ _ _ _ _ => pts_nil) (fun _ _ _ _ _ => (pe_tup (pa_cons (pv 3) (pa_cons (pe_meth0 (pe_make (mk_Run T) (ok_Run_init T) (hr.mono (by decide)) (by rfl) (g_Run T) (b_Run_init T) .nil pass0 (pa_cons (pv 0) (pa_cons (pv 3) pa_nil))) (cl_Run T) (m_Run_outcome T) (ok_Run_outcome T) (hr.mono (by decide)) (b_Run_outcome T) .nil pass0) (pa_cons (pe_meth0 (pe_make (mk_Run T) (ok_Run_init T) (hr.mono (by decide)) (by rfl) (g_Run T) (b_Run_init T) .nil pass0 (pa_cons (pv 1) (pa_cons (pv 3) pa_nil))) (cl_Run T) (m_Run_outcome T) (ok_Run_outcome T) (hr.mono (by decide)) (b_Run_outcome T) .nil pass0) pa_nil)))))))))), ?_⟩
    have hm1 := ok.ml
    have hm2 := ok2.ml
    refine ⟨_, rfl, a, _, dx, _, _, rfl, sm _ _ h1, cl_Stack T, na_Stack_names T, rfl, _, rfl, b, _, dy, _, _, rfl, sm _ _ k1, cl_Stack T, na_Stack_names T, rfl, ?_⟩
    refine Or.inr (Or.inr (catA_rep sm hn hn' (by rw [List.length_map, List.length_map]; omega) fun r B1 H1 g1 hr1 => ?_))
    rw [← List.map_append] at hr1
    have hl12 : (modsOf es ++ modsOf fs).length ≤ 4000 := by
      rw [List.length_append]
      omega
    refine ⟨r, modsOf es ++ modsOf fs, rfl, .inr (sqT_same g1.sub hr1), hl12, fun q hq => ⟨q, _, rfl, upd_same, hl12, fun L0 hL0 => ?_⟩⟩
    have g2 := (g1.then0 (Gr.hid (o := SetSO w q (modsOf es ++ modsOf fs)) g1.sub hq))
    have g3 := g2.then0 (Gr.lay (o := .lst ((bothMods es fs).map V.str)) g2.sub hL0)
    have hB3 : (upd B1 L0 (.lst ((bothMods es fs).map V.str))) L0 = some (.lst ((bothMods es fs).map V.str)) := upd_same
    refine ⟨_, rfl, L0, _, rfl, .inl (SqL.of (g3.sub _ _ hB3)), _, _, rfl, rfl, false, blF ?_, iteF ?_⟩
    · show ¬ (6 : Int) < (((bothMods es fs).map V.str).length : Nat)
      rw [List.length_map]
      omega
    refine ⟨_, rfl, _, L0, bothMods es fs, rfl, .inl hB3, nodup_sortS _, h6, g3.sub, fun v B4 H4 g4 hv4 => ?_⟩
    obtain ⟨L, ys, rfl, hL, hP⟩ := hv4
    refine ⟨L, rfl, ⟨ys, SqL.of (g4.sub _ _ hL)⟩, fun D hD => ?_⟩
    have hlen : (allAns (bothMods es fs)).length ≤ 1000000 := by
      have := allAns_len (bothMods es fs) (bothMods es fs).length (Nat.le_refl _)
      rw [List.take_length] at this
      have h2 : 4 ^ (bothMods es fs).length ≤ 4 ^ 6 := Nat.pow_le_pow_right (by decide) h6
      omega
    have h04 := g3.then0 g4
    have in1 : ∀ x ∈ rulesOf es, x.1 ∈ bothMods es fs := fun x hx => mem_sortS.mpr (List.mem_append_left _ (mods_mem hx))
    have in2 : ∀ x ∈ rulesOf fs, x.1 ∈ bothMods es fs := fun x hx => mem_sortS.mpr (List.mem_append_right _ (mods_mem hx))
    refine lc_dat (walk_list (xs := ys)) (M := M0) (B1 := B4) (allAns (bothMods es fs)) (fun _ => true) rAns (fun c => rRow3 K (c, leads es c, leads fs c)) mono_ans (fun b => mono_row3 _) hP rfl g4.sub hD mok0 hlen (fun B2 H2 g => sqL_B g hL) (fun c x B2 H2 hb hx g Ky Kn ky kn => ?_) (fun zs B2 H2 g hz hP2 => ?_)
    · obtain ⟨d, rfl, hd⟩ := hx
      have hb0 := h04.base.trans g.base
      refine ⟨rfl, _, rfl, _, rfl, _, rfl, ?_⟩
      dsimp only [tNil]
      refine mk_run (B := B2) (es := es) (ans := c) (mono_stack es _ _ _ hb0 hv) ok hd (cov_all hb in1) g.sub (fun r1 B5 H5 g5 hv5 => ?_)
      refine run_use hv5 g5.sub ?_
      refine ⟨_, rfl, _, rfl, ?_⟩
      dsimp only [tNil]
      refine mk_run (B := B5) (es := fs) (ans := c) (mono_stack fs _ _ _ (hb0.trans g5.base) hu) ok2 (g5.base _ _ hd) (cov_all hb in2) g5.sub (fun r2 B6 H6 g6 hv6 => ?_)
      refine run_use hv6 g6.sub ?_
      refine ⟨line_le (show 3 ≤ 1000000 by decide), fun t ht => ?_⟩
      have g56 := g5.then0 g6
      refine ky rfl _ _ _ (g56.then0 (Gr.lay g6.sub ht)) ⟨t, d, rfl, .inl (.inl upd_same), ?_⟩
      have hd3 := g56.base _ _ hd
      rw [upd_ne (ne_of_none hd3 (g6.sub.free ht))]
      exact hd3
    · rw [filter_all] at hP2
      refine k _ _ _ (h04.then0 g) ⟨D, zs, rfl, hz, ?_⟩
      unfold bothRows
      rw [List.map_map]
      exact hP2
end
end Lg
/-! D11 -/
set_option maxHeartbeats 4000000
namespace Lg
open PySem L2
theorem inV_str {x : Str} {ms : List Str} : inV (.str x) (ms.map V.str) = decide (x ∈ ms) := by
  unfold inV
  rw [List.any_map]
  rw [Bool.eq_iff_iff, List.any_eq_true, decide_eq_true_iff]
  constructor
  · rintro ⟨y, hy, e⟩
    have : (y == x) = true := e
    rwa [← eq_of_beq this]
  · intro h
    exact ⟨x, h, beq_self_eq_true x⟩
theorem flat_strs (ms : List Str) : (ms.map V.str).all flatV = true := by
  rw [List.all_map]
  exact List.all_eq_true.mpr fun _ _ => rfl
section
variable {P : Program} {w : World} {K : PySem.W.Frag} {mg : Str → Option Value} {base : Heap}
def sp_need_answers (K : PySem.W.Frag) : Sp := fun vs H Q _ => ∃ (B : Hp) (n d : Addr) (ms : List Str) (kn : Ans), vs = [.ref n, .ref d, .bl false] ∧ SqT K B n (ms.map V.str) ∧ B d = some (.dK (ansV kn)) ∧ (∀ p ∈ kn, p.1 ∈ ms ∧ p.2 ∈ results) ∧ ms.length ≤ 6 ∧ kn.length ≤ 1000 ∧ Same B H ∧ Ret B H (RV .non) Q
theorem ok_need_answers (T : Txt K mg) : FnOk P w K mg base CX0 1 (a_need_answers K) (fdOf K (a_need_answers K)) ["modules", "answers", "is_whole"] (sp_need_answers K) := by
  refine (f_need_answers T).ok sc_need_answers (fun vs H Q E h => ?_) (fun cdv A outer s H vs Q E hr h => ?_)
  · obtain ⟨B, n, d, ms, kn, rfl, _⟩ := h
    rfl
  · obtain ⟨B, n, d, ms, kn, rfl, hn, hd, hkn, h6, hkl, sm, k⟩ := h
    refine ⟨_, (pss_one (ps_for PassesOwn.never rfl (pi_list (pe_callB (cr_sortSet rfl) (by rfl) (n_sorted T) (by decide +kernel) (pa_cons (pe_callTy (cr_setS rfl) (by rfl) (n_set T) (by decide +kernel) (pa_cons (pe_op op_addU (pe_callTy call_list_of (by rfl) (n_list T) (by decide +kernel) (pa_cons (pv 0) pa_nil)) (pe_callTy (call_listD rfl) (by rfl) (n_list T) (by decide +kernel) (pa_cons (pv 1) pa_nil))) pa_nil)) pa_nil))) (pg_name (i := 3) sc_need_answers.nd rfl (Or.inl rfl)) (pss_cons (ps_if (PW.pt (pw_or (pt_cmpR op_notIn_seq (pv 3) (pv 0) (by rfl)) (pw_or1 (PW.pt (pw_and (pt_cmp (pc_dnotin (hu_of hr) (pv 3) (pv 1))) (pw_and1 (pt_val (pv 2)))))))) (pss_one ps_never) pss_nil) (pss_one (ps_if (PW.pt (pw_and (pt_cmp (pc_din (hu_of hr) (pv 3) (pv 1))) (pw_and1 (pt_cmpR op_notIn_seq (pe_dget (hu_of hr) (pv 1) (pv 3) (fun _ _ => rfl)) (pe_gr (by rfl) (g_RESULTS T)) (by rfl))))) (pss_one ps_never) pss_nil))))), ?_⟩
    have hkeys : ((ansV kn).map fun kv => kV kv.1) = (kn.map (·.1)).map V.str := by
      unfold ansV
      rw [List.map_map, List.map_map]
      rfl
    have hlc : (ms ++ kn.map (·.1)).length ≤ 4000 := by
      rw [List.length_append, List.length_map]
      omega
    refine ⟨_, rfl, n, _, rfl, .inr (sqT_same sm hn), fun p1 hp1 => ?_⟩
    have g1 : Gr M0 B H B (upd H p1 (.lst (ms.map V.str))) := Gr.hid sm hp1
    refine ⟨_, rfl, d, ansV kn, rfl, .inl (g1.sub _ _ hd), fun p2 hp2 => ?_⟩
    have g2 := g1.then0 (Gr.hid (o := .lst ((ansV kn).map fun kv => kV kv.1)) g1.sub hp2)
    refine Or.inr (Or.inl ⟨p1, p2, ms.map V.str, (kn.map (·.1)).map V.str, rfl, rfl, ?_, ?_, line_le ?_, fun p3 hp3 => ?_⟩)
    · rw [upd_ne (ne_of_none upd_same hp2)]
      exact upd_same
    · rw [← hkeys]
      exact upd_same
    · rw [List.length_map, List.length_map, ← List.length_append]
      omega
    rw [← List.map_append]
    have g3 := g2.then0 (Gr.hid (o := .lst ((ms ++ kn.map (·.1)).map V.str)) g2.sub hp3)
    refine ⟨p3, ms ++ kn.map (·.1), rfl, .inl (SqL.of upd_same), hlc, fun p4 hp4 => ⟨p4, _, rfl, upd_same, hlc, fun p5 hp5 => ?_⟩⟩
    have g4 := g3.then0 (Gr.hid (o := SetSO w p4 (ms ++ kn.map (·.1))) g3.sub hp4)
    have g5 := g4.then0 (Gr.lay (o := .lst ((sortS (ms ++ kn.map (·.1))).map V.str)) g4.sub hp5)
    have hB5 : (upd B p5 (.lst ((sortS (ms ++ kn.map (·.1))).map V.str))) p5 = some (.lst ((sortS (ms ++ kn.map (·.1))).map V.str)) := upd_same
    have hall : ∀ z ∈ sortS (ms ++ kn.map (·.1)), z ∈ ms := by
      intro z hz
      rcases List.mem_append.mp (mem_sortS.mp hz) with h | h
      · exact h
      · obtain ⟨p, hp, rfl⟩ := List.mem_map.mp h
        exact (hkn p hp).1
    refine ⟨p5, rfl, ⟨_, SqL.of (g5.sub _ _ hB5)⟩, ?_⟩
    refine for_it (walk_list (xs := (sortS (ms ++ kn.map (·.1))).map V.str)) (fun i σ H' => ∃ B' x, Gr M0 B H B' H' ∧ B' p5 = some (.lst ((sortS (ms ++ kn.map (·.1))).map V.str)) ∧ σ = [some (.ref n), some (.ref d), some (.bl false), x]) ⟨_, none, g5, hB5, rfl⟩ (fun i σ H' hi pv => ?_) (fun i x σ H' H2 hi pv y => ?_) (fun σ H' pv => ?_)
    · obtain ⟨B', x, g, hb, _⟩ := pv
      exact SqL.of (g.sub _ _ hb)
    · obtain ⟨B', x0, g, hb, rfl⟩ := pv
      obtain ⟨rfl, hx⟩ := y
      rw [List.getElem?_map] at hx
      cases q : (sortS (ms ++ kn.map (·.1)))[i]? with
      | none => rw [q] at hx; cases hx
      | some z =>
        rw [q] at hx
        cases hx
        have hz := hall z (List.mem_of_getElem? q)
        have hn' := sqT_B g hn
        have hd' := g.sub _ _ (g.base _ _ hd)
        dsimp only [gName, tSeq]
        refine ifS_f (fun Qf qf => ?_) ?_
        · refine ⟨_, rfl, _, rfl, n, _, rfl, .inr hn', rfl, flat_strs ms, false, ?_, iteF ?_⟩
          · rw [inV_str, decide_eq_true hz]
            rfl
          · refine ⟨_, rfl, _, rfl, d, _, rfl, .inl ⟨ansV kn, Sum.inr z, .inl hd', rfl, rfl⟩, _, rfl, ?_⟩
            cases (!(valV (ansV kn) (Sum.inr z)).isSome) with
            | true => exact iteT ⟨_, rfl, false, rfl, qf⟩
            | false => exact iteF qf
        · dsimp only [tNext]
          refine ifS_f (fun Qf qf => ?_) ⟨B', _, g, hb, rfl⟩
          refine ⟨_, rfl, _, rfl, d, _, rfl, .inl ⟨ansV kn, Sum.inr z, .inl hd', rfl, rfl⟩, _, rfl, ?_⟩
          cases hv : valV (ansV kn) (Sum.inr z) with
          | none => exact iteF qf
          | some u =>
            have hzk : z ∈ kn.map (·.1) := by
              by_cases h : z ∈ kn.map (·.1)
              · exact h
              · exfalso
                have : kn.lookup z = none := by
                  rw [List.lookup_eq_none_iff]
                  intro p hp
                  exact bne_iff_ne.mpr fun e => h (List.mem_map.mpr ⟨p, hp, e.symm⟩)
                unfold ansV at hv
                rw [valV_ans, this] at hv
                cases hv
            obtain ⟨r, hr1, hr2⟩ := lookup_mem hzk
            have hu : u = .str r := by
              unfold ansV at hv
              rw [valV_ans, hr1] at hv
              exact (Option.some.inj hv).symm
            subst hu
            refine iteT ⟨_, rfl, _, rfl, d, _, rfl, .inl ⟨ansV kn, Sum.inr z, .inl hd', rfl, hv.symm⟩, _, results.map V.str, rfl, .inr (t_RESULTS T _), rfl, flat_strs results, false, ?_, qf⟩
            rw [inV_str, decide_eq_true (hkn _ hr2).2]
            rfl
    · obtain ⟨B', x, g, hb, rfl⟩ := pv
      exact k _ _ _ g rfl
def sp_need_word : Sp := fun vs H Q _ => ∃ (B : Hp) (x : Str), vs = [.str x] ∧ (x = "in" ∨ x = "out") ∧ Same B H ∧ Ret B H (RV .non) Q
theorem ok_need_word (T : Txt K mg) : FnOk P w K mg base CX0 1 (a_need_word K) (fdOf K (a_need_word K)) ["word"] sp_need_word := by
  refine (f_need_word T).ok sc_need_word (fun vs H Q E h => ?_) (fun cdv A outer s H vs Q E hr h => ?_)
  · obtain ⟨B, x, rfl, _⟩ := h
    rfl
  · obtain ⟨B, x, rfl, hx, sm, k⟩ := h
    refine ⟨_, (pss_one (ps_if (pt_cmpR op_notIn_seq (pv 0) (pe_tup (pa_cons (pe_gs (by rfl) (g_IN T)) (pa_cons (pe_gs (by rfl) (g_OUT T)) pa_nil))) (by rfl)) (pss_one ps_never) pss_nil)), ?_⟩
    refine ⟨_, rfl, line_le (show 2 ≤ 1000000 by decide), fun p hp => ⟨p, (["in", "out"] : List Str).map V.str, rfl, .inr (.inl (.inl upd_same)), rfl, flat_strs _, false, ?_, iteF (k _ _ _ (Gr.hid sm hp) rfl)⟩⟩
    rw [inV_str, decide_eq_true]
    · rfl
    · rcases hx with rfl | rfl
      · exact List.mem_cons_self
      · exact List.mem_cons_of_mem _ List.mem_cons_self
end
end Lg
/-! D12 -/
set_option maxHeartbeats 4000000
namespace Lg
open PySem L2
/-- what is kept: the stack's entries, the promises, the names noted -/
structure Kept where
  es : List En
  vows : Vows
  noted : List Str
structure Stt where
  now : Kept
  past : List Kept
  undone : List Kept
section
variable (K : PySem.W.Frag)
def rNoted (ns : List Str) : Rp := fun v B => ∃ d kvs, v = .ref d ∧ B d = some (.dK kvs) ∧ kvs.map (·.1) = ns.map (fun x => (Sum.inr x : Key))
def rVows (vs : Vows) : Rp := RTup K (vs.map (rRow K))
def rKept (k : Kept) : Rp := fun v B => ∃ t a p d, v = .ref t ∧ SqT K B t [a, p, d] ∧ rStack K k.es a B ∧ rVows K k.vows p B ∧ rNoted k.noted d B
def rOp : Rp := fun v B => ∃ t xs, v = .ref t ∧ SqT K B t xs ∧ ((∃ d kvs w, xs = [.str "promise", .ref d, w] ∧ B d = some (.dK kvs)) ∨ ∃ z y, z ≠ ("promise" : Str) ∧ xs = [.str z, y])
def rEntry (k : Kept) : Rp := fun v B => ∃ t o kt, v = .ref t ∧ SqT K B t [o, kt] ∧ rOp K o B ∧ rKept K k kt B
def rPast (ks : List Kept) : Rp := RTup K (ks.map (rEntry K))
end
section
variable {K : PySem.W.Frag}
theorem mono_noted (ns : List Str) : Mono (rNoted ns) := fun _ _ _ s ⟨d, kvs, e, h, h2⟩ => ⟨d, kvs, e, s _ _ h, h2⟩
theorem mono_vows (vs : Vows) : Mono (rVows K vs) := mono_tup (mem_map_mono mono_row)
theorem mono_kept (k : Kept) : Mono (rKept K k) := fun _ _ _ s ⟨t, a, p, d, e, h, h1, h2, h3⟩ => ⟨t, a, p, d, e, sqT_same s h, mono_stack _ _ _ _ s h1, mono_vows _ _ _ _ s h2, mono_noted _ _ _ _ s h3⟩
theorem mono_op : Mono (rOp K) := fun _ _ _ s ⟨t, xs, e, h, h2⟩ => ⟨t, xs, e, sqT_same s h, h2.imp (fun ⟨d, kvs, w, a, b⟩ => ⟨d, kvs, w, a, s _ _ b⟩) id⟩
theorem mono_entry (k : Kept) : Mono (rEntry K k) := fun _ _ _ s ⟨t, o, kt, e, h, h1, h2⟩ => ⟨t, o, kt, e, sqT_same s h, mono_op _ _ _ s h1, mono_kept k _ _ _ s h2⟩
theorem mono_past (ks : List Kept) : Mono (rPast K ks) := mono_tup (mem_map_mono mono_entry)
end
section
variable {P : Program} {w : World} {K : PySem.W.Frag} {mg : Str → Option Value} {base : Heap}
/-- a state's object, its five slots -/
structure StAt (K : PySem.W.Frag) (B H : Hp) (s sdx : Addr) (st : Stt) : Prop where
  ex : ∃ nv qv ev uv vv, H s = some (SlX.SlO s (c_State K) sdx [some nv, some qv, some ev, some uv, some vv]) ∧ rNoted st.now.noted nv B ∧ rPast K st.past qv B ∧ rStack K st.now.es ev B ∧ rPast K st.undone uv B ∧ rVows K st.now.vows vv B
  dx : H sdx = some (.xd [])
  hs : B s = none
  hd : B sdx = none
abbrev SM (s sdx : Addr) : Addr → Prop := fun z => z = s ∨ z = sdx
theorem StAt.mok {B H : Hp} {s sdx : Addr} {st : Stt} (h : StAt K B H s sdx st) : MOk (SM s sdx) B H := fun z e => by
  obtain ⟨nv, qv, ev, uv, vv, h1, _⟩ := h.ex
  rcases e with rfl | rfl
  · exact ⟨h.hs, _, h1⟩
  · exact ⟨h.hd, _, h.dx⟩
theorem StAt.go {M : Addr → Prop} {B H B1 H1 : Hp} {s sdx : Addr} {st : Stt} (h : StAt K B H s sdx st) (g : Gr M B H B1 H1) (h1 : ¬ M s) (h2 : ¬ M sdx) : StAt K B1 H1 s sdx st := by
  obtain ⟨⟨nv, qv, ev, uv, vv, a0, a1, a2, a3, a4, a5⟩, b, c, d⟩ := h
  exact ⟨⟨nv, qv, ev, uv, vv, g.keep _ _ h1 a0, mono_noted _ _ _ _ g.base a1, mono_past _ _ _ _ g.base a2, mono_stack _ _ _ _ g.base a3, mono_past _ _ _ _ g.base a4, mono_vows _ _ _ _ g.base a5⟩, g.keep _ _ h2 b, g.new _ _ c a0, g.new _ _ d b⟩
theorem StAt.go0 {B H B1 H1 : Hp} {s sdx : Addr} {st : Stt} (h : StAt K B H s sdx st) (g : Gr M0 B H B1 H1) : StAt K B1 H1 s sdx st := h.go g (fun z => z) (fun z => z)
theorem StAt.ne {B H : Hp} {s sdx : Addr} {st : Stt} (h : StAt K B H s sdx st) : sdx ≠ s := by
  obtain ⟨nv, qv, ev, uv, vv, h1, _⟩ := h.ex
  rintro rfl
  rw [h.dx] at h1
  exact absurd (Option.some.inj h1).symm SlX.slO_not
theorem Gr.slot {M : Addr → Prop} {B H B1 H1 : Hp} {s C sdx : Addr} {vs : List (Option V)} (g : Gr M B H B1 H1) (h1 : B1 s = none) (h2 : B1 sdx = none) (m1 : H s = none ∨ M s) (m2 : H sdx = none ∨ M sdx) : Gr M B H B1 (SlX.slH H1 s C sdx vs) := (g.mut h2 m2).mut h1 m1
def sp_State_init (K : PySem.W.Frag) : Sp := fun vs H Q _ => ∃ (B : Hp) (s sdx : Addr) (kt qv uv : V) (st : Stt), vs = [.ref s, kt, qv, uv] ∧ B s = none ∧ B sdx = none ∧ sdx ≠ s ∧ H s = some (.ins (c_State K) sdx []) ∧ H sdx = some (.own s) ∧ rKept K st.now kt B ∧ rPast K st.past qv B ∧ rPast K st.undone uv B ∧ Same B H ∧
  ∀ B' H', Gr (SM s sdx) B H B' H' → StAt K B' H' s sdx st → Q .non H'
theorem ok_State_init (T : Txt K mg) : FnOk P w K mg base CX0 1 (a_State_init K) (fdOf K (a_State_init K)) ["self", "kept", "past", "undone"] (sp_State_init K) := by
  refine (f_State_init T).ok sc_State_init (fun vs H Q E h => ?_) (fun cdv A outer s H vs Q E hr h => ?_)
  · obtain ⟨B, s, sdx, kt, qv, uv, st, rfl, _⟩ := h
    rfl
  · obtain ⟨B, s, sdx, kt, qv, uv, st, rfl, hs, hd, hne, hH, hHd, ⟨t, a, p, d, rfl, ht, h1, h2, h3⟩, hp, hu, sm, k⟩ := h
    refine ⟨_, (pss_cons (ps_asg (pv 1) (pg_tup rfl (pgs_cons (pg_sl (pv 0)) (pgs_cons (pg_sl (pv 0)) (pgs_cons (pg_sl (pv 0)) pgs_nil))))) (pss_cons (SlX.ps_sl (pv 0) (pv 2)) (pss_one (SlX.ps_sl (pv 0) (pv 3))))), ?_⟩
    have sl : ∀ G vs, SlX.Slt (SlX.slH G s (c_State K) sdx vs) s (c_State K) sdx vs := fun G vs => SlX.slH_slt hne
    refine ⟨_, rfl, t, _, rfl, sqT_same sm ht, rfl, _, _, rfl, _, rfl, s, _, sdx, _, _, 2, rfl, .inl ⟨hH, rfl⟩, cl_State T, sl_present T, _, _, rfl, _, rfl, s, _, sdx, _, _, 4, rfl, sl _ _, cl_State T, sl_vows T, _, _, rfl, _, rfl, s, _, sdx, _, _, 0, rfl, sl _ _, cl_State T, sl_noted T, rfl, ?_⟩
    refine ⟨_, rfl, _, rfl, s, _, sdx, _, _, 1, rfl, sl _ _, cl_State T, sl_past T, ?_⟩
    refine ⟨_, rfl, _, rfl, s, _, sdx, _, _, 3, rfl, sl _ _, cl_State T, sl_undone T, ?_⟩
    rw [SlX.slH_twice hne, SlX.slH_twice hne, SlX.slH_twice hne, SlX.slH_twice hne]
    have g := Gr.slot (C := c_State K) (vs := [some d, some qv, some a, some uv, some p]) (Gr.refl (M := SM s sdx) sm) hs hd (.inr (.inl rfl)) (.inr (.inr rfl))
    refine k B _ g ⟨⟨d, qv, a, uv, p, upd_same, h3, hp, h1, hu, h2⟩, ?_, hs, hd⟩
    show (upd (upd H sdx (.xd [])) s _) sdx = _
    rw [upd_ne hne]
    exact upd_same
/-- State(..) -/
theorem mk_state {H : Hp} {Q : Addr → Hp → Prop} {E : XK} {B : Hp} {kt qv uv : V} {st : Stt} (h1 : rKept K st.now kt B) (h2 : rPast K st.past qv B) (h3 : rPast K st.undone uv B) (sm : Same B H) (k : ∀ s sdx B' H', Gr M0 B H B' H' → H s = none → H sdx = none → StAt K B' H' s sdx st → Q s H') :
    ∀ a dx, H a = none → H dx = none → dx ≠ a → sp_State_init K [.ref a, kt, qv, uv] (upd (upd H dx (.own a)) a (.ins (c_State K) dx [])) (fun v H2 => v = .non ∧ Q a H2) E := by
  intro a dx e1 e2 hne
  have s1 : Same H (upd (upd H dx (.own a)) a (.ins (c_State K) dx [])) := fun p u e => by
    rw [upd_ne (ne_of_none e e1), upd_ne (ne_of_none e e2)]; exact e
  refine ⟨B, a, dx, kt, qv, uv, st, rfl, sm.free e1, sm.free e2, hne, upd_same, by rw [upd_ne hne]; exact upd_same, h1, h2, h3, sm.trans s1, fun B' H' g hst => ⟨rfl, k a dx B' H' ?_ e1 e2 hst⟩⟩
  have g0 : Gr (SM a dx) B H B (upd (upd H dx (.own a)) a (.ins (c_State K) dx [])) := ((Gr.refl sm).mut (sm.free e2) (.inl e2)).mut (sm.free e1) (.inl e1)
  have g1 : Gr M0 B H B (upd (upd H dx (.own a)) a (.ins (c_State K) dx [])) := ((Gr.refl sm).mut (sm.free e2) (.inl e2)).mut (sm.free e1) (.inl e1)
  exact g1.trans' g fun z hz => .inr (by rcases hz with rfl | rfl <;> assumption)
def sp_State_kept (K : PySem.W.Frag) : Sp := fun vs H Q _ => ∃ (B : Hp) (s sdx : Addr) (st : Stt), vs = [.ref s] ∧ StAt K B H s sdx st ∧ Same B H ∧ Ret B H (rKept K st.now) Q
theorem ok_State_kept (T : Txt K mg) : FnOk P w K mg base CX0 1 (a_State_kept K) (fdOf K (a_State_kept K)) ["self"] (sp_State_kept K) := by
  refine (f_State_kept T).ok sc_State_kept (fun vs H Q E h => ?_) (fun cdv A outer s H vs Q E hr h => ?_)
  · obtain ⟨B, s, sdx, st, rfl, _⟩ := h
    rfl
  · obtain ⟨B, s, sdx, st, rfl, hst, sm, k⟩ := h
    obtain ⟨nv, qv, ev, uv, vv, a0, a1, a2, a3, a4, a5⟩ := hst.ex
    have sl : SlX.Slt H s (c_State K) sdx [some nv, some qv, some ev, some uv, some vv] := .inr ⟨a0, hst.dx⟩
    refine ⟨_, (pss_one (ps_ret (pe_tup (pa_cons (SlX.pe_sl (pv 0)) (pa_cons (SlX.pe_sl (pv 0)) (pa_cons (SlX.pe_sl (pv 0)) pa_nil)))))), ?_⟩
    refine ⟨_, rfl, s, _, sdx, _, _, 2, _, rfl, sl, cl_State T, sl_present T, rfl, _, rfl, s, _, sdx, _, _, 4, _, rfl, sl, cl_State T, sl_vows T, rfl, _, rfl, s, _, sdx, _, _, 0, _, rfl, sl, cl_State T, sl_noted T, rfl, line_le (show 3 ≤ 1000000 by decide), fun t ht => ?_⟩
    have g := Gr.lay (M := M0) (o := .tup [ev, vv, nv]) sm ht
    exact k _ _ _ g ⟨t, ev, vv, nv, rfl, .inl (.inl upd_same), mono_stack _ _ _ _ g.base a3, mono_vows _ _ _ _ g.base a5, mono_noted _ _ _ _ g.base a1⟩
def sp_State_copied (K : PySem.W.Frag) : Sp := fun vs H Q _ => ∃ (B : Hp) (s sdx : Addr) (st : Stt), vs = [.ref s] ∧ StAt K B H s sdx st ∧ Same B H ∧ ∀ n ndx B' H', Gr M0 B H B' H' → H n = none → H ndx = none → StAt K B' H' n ndx st → Q (.ref n) H'
theorem ok_State_copied (T : Txt K mg) : FnOk P w K mg base CX0 3 (a_State_copied K) (fdOf K (a_State_copied K)) ["self"] (sp_State_copied K) := by
  refine (f_State_copied T).ok sc_State_copied (fun vs H Q E h => ?_) (fun cdv A outer s H vs Q E hr h => ?_)
  · obtain ⟨B, s, sdx, st, rfl, _⟩ := h
    rfl
  · obtain ⟨B, s, sdx, st, rfl, hst, sm, k⟩ := h
    refine ⟨_, (pss_one (ps_ret (pe_make (mk_State T) (ok_State_init T) (hr.mono (by decide)) (by rfl) (g_State T) (b_State_init T) .nil pass0 (pa_cons (SlX.pe_methSl0 (pv 0) (cl_State T) (m_State_kept T) ((ok_State_kept T).raw (b_State_kept T) .nil) (hr.mono (by decide)) pass0) (pa_cons (SlX.pe_sl (pv 0)) (pa_cons (SlX.pe_sl (pv 0)) pa_nil)))))), ?_⟩
    obtain ⟨nv, qv, ev, uv, vv, a0, a1, a2, a3, a4, a5⟩ := hst.ex
    have sl : SlX.Slt H s (c_State K) sdx [some nv, some qv, some ev, some uv, some vv] := .inr ⟨a0, hst.dx⟩
    refine ⟨_, rfl, s, sdx, _, rfl, sl, B, s, sdx, st, rfl, hst, sm, fun kt B1 H1 g1 hk => ?_⟩
    have hst1 := hst.go0 g1
    have sl1 : SlX.Slt H1 s (c_State K) sdx [some nv, some qv, some ev, some uv, some vv] := .inr ⟨g1.same _ _ a0, hst1.dx⟩
    refine ⟨_, rfl, s, _, sdx, _, _, 1, _, rfl, sl1, cl_State T, sl_past T, rfl, _, rfl, s, _, sdx, _, _, 3, _, rfl, sl1, cl_State T, sl_undone T, rfl, ?_⟩
    dsimp only [tNil]
    refine mk_state (st := st) hk (mono_past _ _ _ _ g1.base a2) (mono_past _ _ _ _ g1.base a4) g1.sub (fun n ndx B' H' g e1 e2 h => ?_)
    exact k n ndx B' H' (g1.then0 g) (g1.same.free e1) (g1.same.free e2) h
end
end Lg
/-! D13 -/
set_option maxHeartbeats 4000000
namespace Lg
open PySem L2
section
variable {P : Program} {w : World} {K : PySem.W.Frag} {mg : Str → Option Value} {base : Heap}
theorem putS31 (kd ka kp nv qv ev uv vv x y : V) : SlX.putS 0 kd (SlX.putS 4 kp (SlX.putS 2 ka (SlX.putS 3 y (SlX.putS 1 x [some nv, some qv, some ev, some uv, some vv])))) = [some kd, some x, some ka, some y, some kp] := by kernel_rfl
theorem putS13 (kd ka kp nv qv ev uv vv x y : V) : SlX.putS 0 kd (SlX.putS 4 kp (SlX.putS 2 ka (SlX.putS 1 x (SlX.putS 3 y [some nv, some qv, some ev, some uv, some vv])))) = [some kd, some x, some ka, some y, some kp] := by kernel_rfl
theorem slt_lay {G : Hp} {s C sdx nu : Addr} {vs : List (Option V)} {o : HO} (hne : sdx ≠ s) (hn : (SlX.slH G s C sdx vs) nu = none) : SlX.Slt (upd (SlX.slH G s C sdx vs) nu o) s C sdx vs := by
  have e1 : (SlX.slH G s C sdx vs) s = some (SlX.SlO s C sdx vs) := upd_same
  have e2 : (SlX.slH G s C sdx vs) sdx = some (.xd []) := by
    show (upd (upd G sdx (.xd [])) s _) sdx = _
    rw [upd_ne hne]
    exact upd_same
  refine .inr ⟨?_, ?_⟩
  · rw [upd_ne (ne_of_none e1 hn)]
    exact e1
  · rw [upd_ne (ne_of_none e2 hn)]
    exact e2
def sp_go_on (K : PySem.W.Frag) : Sp := fun vs H Q _ => ∃ (B : Hp) (s sdx : Addr) (o kt : V) (k : Kept) (st : Stt), vs = [.ref s, o, kt] ∧ StAt K B H s sdx st ∧ rOp K o B ∧ rKept K k kt B ∧ st.past.length ≤ 1000 ∧ Same B H ∧
  ∀ B' H', Gr (SM s sdx) B H B' H' → StAt K B' H' s sdx ⟨k, st.past ++ [st.now], []⟩ → Q .non H'
theorem ok_State_go_on (T : Txt K mg) : FnOk P w K mg base CX0 2 (a_State_go_on K) (fdOf K (a_State_go_on K)) ["self", "operation", "kept"] (sp_go_on K) := by
  refine (f_State_go_on T).ok sc_State_go_on (fun vs H Q E h => ?_) (fun cdv A outer s0 H vs Q E hr h => ?_)
  · obtain ⟨B, s, sdx, o, kt, k, st, rfl, _⟩ := h
    rfl
  · obtain ⟨B, s, sdx, o, kt, kp, st, rfl, hst, ho, hk, hlen, sm, k⟩ := h
    refine ⟨_, (pss_cons (SlX.ps_sl (pv 0) (pe_tup (StX.pa_star (SlX.pe_sl (pv 0)) (pa_cons (pe_tup (pa_cons (pv 1) (pa_cons (SlX.pe_methSl0 (pv 0) (cl_State T) (m_State_kept T) ((ok_State_kept T).raw (b_State_kept T) .nil) (hr.mono (by decide)) pass0) pa_nil))) pa_nil)))) (pss_cons (SlX.ps_sl (pv 0) (pe_tup pa_nil)) (pss_one (ps_asg (pv 2) (pg_tup rfl (pgs_cons (pg_sl (pv 0)) (pgs_cons (pg_sl (pv 0)) (pgs_cons (pg_sl (pv 0)) pgs_nil)))))))), ?_⟩
    have hne := hst.ne
    obtain ⟨nv, qv, ev, uv, vv, a0, a1, ⟨p, ws, rfl, hp, hP⟩, a3, a4, a5⟩ := hst.ex
    have sl : SlX.Slt H s (c_State K) sdx [some nv, some (.ref p), some ev, some uv, some vv] := .inr ⟨a0, hst.dx⟩
    have slH' : ∀ G vs, SlX.Slt (SlX.slH G s (c_State K) sdx vs) s (c_State K) sdx vs := fun G vs => SlX.slH_slt hne
    have hwl : ws.length = st.past.length := by have := hP.length; rw [List.length_map] at this; exact this.symm
    refine ⟨_, rfl, s, _, sdx, _, _, 1, _, rfl, sl, cl_State T, sl_past T, rfl, p, ws, rfl, .inl (sqT_same sm hp), ?_⟩
    refine ⟨_, rfl, _, rfl, s, sdx, _, rfl, sl, B, s, sdx, st, rfl, hst, sm, fun kt0 B1 H1 g1 hk0 => ?_⟩
    refine ⟨line_le (show 2 ≤ 1000000 by decide), fun e he => ⟨?_, fun np hnp => ?_⟩⟩
    · rw [List.length_append, List.length_singleton]
      exact line_le (by omega)
    have g2 := g1.then0 (Gr.lay (o := .tup [o, kt0]) g1.sub he)
    have hEe : (upd B1 e (.tup [o, kt0])) e = some (.tup [o, kt0]) := upd_same
    have g3 := g2.then0 (Gr.lay (o := .tup (ws ++ [V.ref e])) g2.sub hnp)
    have s13 : Same B1 (upd (upd B1 e (.tup [o, kt0])) np (.tup (ws ++ [V.ref e]))) := by
      have h1 := (Gr.lay (M := M0) (o := .tup [o, kt0]) g1.sub he).base
      exact h1.trans (Gr.lay (M := M0) (o := .tup (ws ++ [V.ref e])) g2.sub hnp).base
    generalize hB3 : (upd (upd B1 e (.tup [o, kt0])) np (.tup (ws ++ [V.ref e]))) = B3 at g3 s13
    have hnpB : B3 np = some (.tup (ws ++ [V.ref e])) := by rw [← hB3]; exact upd_same
    have heB : B3 e = some (.tup [o, kt0]) := by
      rw [← hB3, upd_ne (ne_of_none hEe (g2.sub.free hnp))]
      exact hEe
    have hst3 := hst.go0 g3
    refine ⟨_, rfl, s, _, sdx, _, _, 1, rfl, .inr ⟨g3.same _ _ a0, hst3.dx⟩, cl_State T, sl_past T, ?_⟩
    refine ⟨line_le (show 0 ≤ 1000000 by decide), fun nu hnu => ?_⟩
    have gS := Gr.slot (M := SM s sdx) (C := c_State K) (vs := SlX.putS 1 (.ref np) [some nv, some (.ref p), some ev, some uv, some vv]) g3.up hst3.hs hst3.hd (.inr (.inl rfl)) (.inr (.inr rfl))
    have gU := Gr.trans hst.mok gS (Gr.lay (o := .tup []) gS.sub hnu)
    have hnuB : (upd B3 nu (.tup [])) nu = some (.tup []) := upd_same
    refine ⟨_, rfl, s, _, sdx, _, _, 3, rfl, slt_lay hne hnu, cl_State T, sl_undone T, ?_⟩
    obtain ⟨t, ka, kp', kd, rfl, ht, k1, k2, k3⟩ := hk
    have sB : Same B (upd B3 nu (.tup [])) := gU.base
    have gV := Gr.slot (M := SM s sdx) (C := c_State K) (vs := SlX.putS 3 (.ref nu) (SlX.putS 1 (.ref np) [some nv, some (.ref p), some ev, some uv, some vv])) gU (gU.new _ _ hst.hs a0) (gU.new _ _ hst.hd hst.dx) (.inr (.inl rfl)) (.inr (.inr rfl))
    refine ⟨_, rfl, t, _, rfl, sqT_B gV ht, rfl, _, _, rfl, _, rfl, s, _, sdx, _, _, 2, rfl, slH' _ _, cl_State T, sl_present T, _, _, rfl, _, rfl, s, _, sdx, _, _, 4, rfl, slH' _ _, cl_State T, sl_vows T, _, _, rfl, _, rfl, s, _, sdx, _, _, 0, rfl, slH' _ _, cl_State T, sl_noted T, rfl, ?_⟩
    rw [SlX.slH_twice hne, SlX.slH_twice hne, SlX.slH_twice hne, putS31]
    have gW := Gr.slot (M := SM s sdx) (C := c_State K) (vs := [some kd, some (.ref np), some ka, some (.ref nu), some kp']) gU (gU.new _ _ hst.hs a0) (gU.new _ _ hst.hd hst.dx) (.inr (.inl rfl)) (.inr (.inr rfl))
    have sU : Same B3 (upd B3 nu (.tup [])) := (Gr.lay (M := M0) (o := .tup []) gS.sub hnu).base
    refine k _ _ gW ⟨⟨kd, .ref np, ka, .ref nu, kp', upd_same, mono_noted _ _ _ _ sB k3, ?_, mono_stack _ _ _ _ sB k1, ⟨nu, [], rfl, .inl (.inl hnuB), trivial⟩, mono_vows _ _ _ _ sB k2⟩, ?_, gU.new _ _ hst.hs a0, gU.new _ _ hst.hd hst.dx⟩
    · refine ⟨np, ws ++ [V.ref e], rfl, .inl (.inl (sU _ _ hnpB)), ?_⟩
      rw [List.map_append]
      exact (hP.mono sB (mem_map_mono mono_entry)).snoc ⟨e, o, kt0, rfl, .inl (.inl (sU _ _ heB)), mono_op _ _ _ sB ho, mono_kept _ _ _ _ (s13.trans sU) hk0⟩
    · show (upd (upd _ sdx (.xd [])) s _) sdx = _
      rw [upd_ne hne]
      exact upd_same
theorem cut_last {ws : List V} {x : V} {n : Nat} (h : ws = ws.take n ++ [x]) : cutV ws none (some (-1)) = ws.take n := by
  have hl : ws.length = n + 1 := by
    have h1 := congrArg List.length h
    rw [List.length_append, List.length_take, List.length_singleton] at h1
    omega
  unfold cutV
  have h2 : HT.sIx ws.length ws.length (some (-1)) = n := by
    show (if (-1 : Int) < 0 then ((-1 : Int) + (ws.length : Int)).toNat else min (-1 : Int).toNat ws.length) = n
    rw [if_pos (by decide), hl]
    omega
  rw [h2, HT.sIx_none, List.drop_zero, Nat.sub_zero]
def sp_go_back (K : PySem.W.Frag) : Sp := fun vs H Q _ => ∃ (B : Hp) (s sdx : Addr) (ks : List Kept) (k : Kept) (st : Stt), vs = [.ref s] ∧ StAt K B H s sdx st ∧ st.past = ks ++ [k] ∧ st.past.length ≤ 1000 ∧ st.undone.length ≤ 1000 ∧ Same B H ∧
  ∀ B' H', Gr (SM s sdx) B H B' H' → StAt K B' H' s sdx ⟨k, ks, st.undone ++ [st.now]⟩ → Q .non H'
theorem ok_State_go_back (T : Txt K mg) : FnOk P w K mg base CX0 2 (a_State_go_back K) (fdOf K (a_State_go_back K)) ["self"] (sp_go_back K) := by
  refine (f_State_go_back T).ok sc_State_go_back (fun vs H Q E h => ?_) (fun cdv A outer s0 H vs Q E hr h => ?_)
  · obtain ⟨B, s, sdx, ks, k, st, rfl, _⟩ := h
    rfl
  · obtain ⟨B, s, sdx, ks, kp, st, rfl, hst, hA, hla, hlc, sm, k⟩ := h
    refine ⟨_, (pss_cons (ps_asg (pe_ix ix_seq (SlX.pe_sl (pv 0)) (pe_un un_neg pe_int) (fun _ _ => rfl)) (pg_tup rfl (pgs_cons (pg_name (i := 1) sc_State_go_back.nd rfl (Or.inl rfl)) (pgs_cons (pg_name (i := 2) sc_State_go_back.nd rfl (Or.inl rfl)) pgs_nil)))) (pss_cons (SlX.ps_sl (pv 0) (pe_tup (StX.pa_star (SlX.pe_sl (pv 0)) (pa_cons (pe_tup (pa_cons (pv 1) (pa_cons (SlX.pe_methSl0 (pv 0) (cl_State T) (m_State_kept T) ((ok_State_kept T).raw (b_State_kept T) .nil) (hr.mono (by decide)) pass0) pa_nil))) pa_nil)))) (pss_cons (SlX.ps_sl (pv 0) (pe_slice sl_tupA (SlX.pe_sl (pv 0)) po_none (po_some (pe_un un_neg pe_int)))) (pss_one (ps_asg (pv 2) (pg_tup rfl (pgs_cons (pg_sl (pv 0)) (pgs_cons (pg_sl (pv 0)) (pgs_cons (pg_sl (pv 0)) pgs_nil))))))))), ?_⟩
    have hne := hst.ne
    obtain ⟨nv, qv, ev, uv, vv, a0, a1, ⟨pP, wsP, rfl, hpP, hPP⟩, a3, ⟨pU, wsU, rfl, hpU, hPU⟩, a5⟩ := hst.ex
    have sl : SlX.Slt H s (c_State K) sdx [some nv, some (.ref pP), some ev, some (.ref pU), some vv] := .inr ⟨a0, hst.dx⟩
    have slH' : ∀ G vs, SlX.Slt (SlX.slH G s (c_State K) sdx vs) s (c_State K) sdx vs := fun G vs => SlX.slH_slt hne
    have hlA : wsP.length = st.past.length := by have := hPP.length; rw [List.length_map] at this; exact this.symm
    have hlC : wsU.length = st.undone.length := by have := hPU.length; rw [List.length_map] at this; exact this.symm
    have hP2 : PairR (ks.map (rEntry K) ++ [rEntry K kp]) wsP B := by
      have := hPP
      rw [hA, List.map_append] at this
      exact this
    obtain ⟨x, hx, hxe⟩ := hP2.get (i := ks.length) (R := rEntry K kp) (by rw [List.getElem?_append_right (by rw [List.length_map]; omega), List.length_map, Nat.sub_self]; rfl)
    have hkl : wsP.length = ks.length + 1 := by rw [hlA, hA, List.length_append, List.length_singleton]
    have hws : wsP = wsP.take ks.length ++ [x] := by
      have h1 : wsP.drop ks.length = [x] := by
        rw [List.drop_eq_getElem_cons (by omega)]
        have h2 := List.getElem?_eq_some_iff.mp hx
        rw [h2.2, List.drop_eq_nil_of_le (by omega)]
      conv => lhs; rw [← List.take_append_drop ks.length wsP, h1]
    obtain ⟨t, o, kt, rfl, ht, ho, hk⟩ := hxe
    refine ⟨_, rfl, s, _, sdx, _, _, 1, _, rfl, sl, cl_State T, sl_past T, rfl, 1, rfl, ?_⟩
    refine .inr (.inl ⟨pP, wsP, _, _, rfl, rfl, sqT_same sm hpP, (by rw [hws]; exact atI_last _ _), ?_⟩)
    refine ⟨t, _, rfl, sqT_same sm ht, rfl, _, _, rfl, _, _, rfl, rfl, ?_⟩
    refine ⟨_, rfl, s, _, sdx, _, _, 3, _, rfl, sl, cl_State T, sl_undone T, rfl, pU, wsU, rfl, .inl (sqT_same sm hpU), ?_⟩
    refine ⟨_, rfl, _, rfl, s, sdx, _, rfl, sl, B, s, sdx, st, rfl, hst, sm, fun kt0 B1 H1 g1 hk0 => ?_⟩
    refine ⟨line_le (show 2 ≤ 1000000 by decide), fun e he => ⟨?_, fun np hnp => ?_⟩⟩
    · rw [List.length_append, List.length_singleton]
      exact line_le (by omega)
    have g2 := g1.then0 (Gr.lay (o := .tup [o, kt0]) g1.sub he)
    have hEe : (upd B1 e (.tup [o, kt0])) e = some (.tup [o, kt0]) := upd_same
    have g3 := g2.then0 (Gr.lay (o := .tup (wsU ++ [V.ref e])) g2.sub hnp)
    have s13 : Same B1 (upd (upd B1 e (.tup [o, kt0])) np (.tup (wsU ++ [V.ref e]))) := by
      have h1 := (Gr.lay (M := M0) (o := .tup [o, kt0]) g1.sub he).base
      exact h1.trans (Gr.lay (M := M0) (o := .tup (wsU ++ [V.ref e])) g2.sub hnp).base
    generalize hB3 : (upd (upd B1 e (.tup [o, kt0])) np (.tup (wsU ++ [V.ref e]))) = B3 at g3 s13
    have hnpB : B3 np = some (.tup (wsU ++ [V.ref e])) := by rw [← hB3]; exact upd_same
    have heB : B3 e = some (.tup [o, kt0]) := by
      rw [← hB3, upd_ne (ne_of_none hEe (g2.sub.free hnp))]
      exact hEe
    have hst3 := hst.go0 g3
    refine ⟨_, rfl, s, _, sdx, _, _, 3, rfl, .inr ⟨g3.same _ _ a0, hst3.dx⟩, cl_State T, sl_undone T, ?_⟩
    have gS := Gr.slot (M := SM s sdx) (C := c_State K) (vs := SlX.putS 3 (.ref np) [some nv, some (.ref pP), some ev, some (.ref pU), some vv]) g3.up hst3.hs hst3.hd (.inr (.inl rfl)) (.inr (.inr rfl))
    refine ⟨_, rfl, s, _, sdx, _, _, 1, _, rfl, slH' _ _, cl_State T, sl_past T, rfl, 1, rfl, _, rfl, ?_⟩
    refine slA_rep gS.sub (sqT_same gS.base hpP) fun r B4 H4 g4 hr4 => ?_
    rw [cut_last hws] at hr4
    have gU := Gr.trans hst.mok gS g4.up
    refine ⟨_, rfl, s, _, sdx, _, _, 1, rfl, .inr ⟨g4.same _ _ upd_same, g4.same _ _ (by show (upd (upd _ sdx (.xd [])) s _) sdx = _; rw [upd_ne hne]; exact upd_same)⟩, cl_State T, sl_past T, ?_⟩
    obtain ⟨t2, ka, kp', kd, rfl, ht2, k1, k2, k3⟩ := hk
    have sB : Same B B4 := gU.base
    have gV := Gr.slot (M := SM s sdx) (C := c_State K) (vs := SlX.putS 1 (.ref r) (SlX.putS 3 (.ref np) [some nv, some (.ref pP), some ev, some (.ref pU), some vv])) gU (gU.new _ _ hst.hs a0) (gU.new _ _ hst.hd hst.dx) (.inr (.inl rfl)) (.inr (.inr rfl))
    refine ⟨_, rfl, t2, _, rfl, sqT_B gV ht2, rfl, _, _, rfl, _, rfl, s, _, sdx, _, _, 2, rfl, slH' _ _, cl_State T, sl_present T, _, _, rfl, _, rfl, s, _, sdx, _, _, 4, rfl, slH' _ _, cl_State T, sl_vows T, _, _, rfl, _, rfl, s, _, sdx, _, _, 0, rfl, slH' _ _, cl_State T, sl_noted T, rfl, ?_⟩
    rw [SlX.slH_twice hne, SlX.slH_twice hne, SlX.slH_twice hne, putS13]
    have gW := Gr.slot (M := SM s sdx) (C := c_State K) (vs := [some kd, some (.ref r), some ka, some (.ref np), some kp']) gU (gU.new _ _ hst.hs a0) (gU.new _ _ hst.hd hst.dx) (.inr (.inl rfl)) (.inr (.inr rfl))
    have hA4 : rPast K ks (.ref r) B4 := ⟨r, _, rfl, hr4, by
      have h1 := (hP2.mono sB (by
        intro R hR
        rcases List.mem_append.mp hR with h | h
        · exact mem_map_mono mono_entry R h
        · rw [List.mem_singleton.mp h]
          exact mono_entry kp)).take ks.length
      rw [List.take_left' (by rw [List.length_map])] at h1
      exact h1⟩
    have hC4 : rPast K (st.undone ++ [st.now]) (.ref np) B4 := by
      refine ⟨np, wsU ++ [V.ref e], rfl, .inl (.inl (g4.base _ _ hnpB)), ?_⟩
      rw [List.map_append]
      exact (hPU.mono sB (mem_map_mono mono_entry)).snoc ⟨e, o, kt0, rfl, .inl (.inl (g4.base _ _ heB)), mono_op _ _ _ sB ho, mono_kept _ _ _ _ (s13.trans g4.base) hk0⟩
    refine k _ _ gW ⟨⟨kd, (.ref r), ka, (.ref np), kp', upd_same, mono_noted _ _ _ _ sB k3, hA4, mono_stack _ _ _ _ sB k1, hC4, mono_vows _ _ _ _ sB k2⟩, ?_, gU.new _ _ hst.hs a0, gU.new _ _ hst.hd hst.dx⟩
    show (upd (upd _ sdx (.xd [])) s _) sdx = _
    rw [upd_ne hne]
    exact upd_same
def sp_go_again (K : PySem.W.Frag) : Sp := fun vs H Q _ => ∃ (B : Hp) (s sdx : Addr) (ks : List Kept) (k : Kept) (st : Stt), vs = [.ref s] ∧ StAt K B H s sdx st ∧ st.undone = ks ++ [k] ∧ st.undone.length ≤ 1000 ∧ st.past.length ≤ 1000 ∧ Same B H ∧
  ∀ B' H', Gr (SM s sdx) B H B' H' → StAt K B' H' s sdx ⟨k, st.past ++ [st.now], ks⟩ → Q .non H'
theorem ok_State_go_again (T : Txt K mg) : FnOk P w K mg base CX0 2 (a_State_go_again K) (fdOf K (a_State_go_again K)) ["self"] (sp_go_again K) := by
  refine (f_State_go_again T).ok sc_State_go_again (fun vs H Q E h => ?_) (fun cdv A outer s0 H vs Q E hr h => ?_)
  · obtain ⟨B, s, sdx, ks, k, st, rfl, _⟩ := h
    rfl
  · obtain ⟨B, s, sdx, ks, kp, st, rfl, hst, hA, hla, hlc, sm, k⟩ := h
    refine ⟨_, (pss_cons (ps_asg (pe_ix ix_seq (SlX.pe_sl (pv 0)) (pe_un un_neg pe_int) (fun _ _ => rfl)) (pg_tup rfl (pgs_cons (pg_name (i := 1) sc_State_go_again.nd rfl (Or.inl rfl)) (pgs_cons (pg_name (i := 2) sc_State_go_again.nd rfl (Or.inl rfl)) pgs_nil)))) (pss_cons (SlX.ps_sl (pv 0) (pe_tup (StX.pa_star (SlX.pe_sl (pv 0)) (pa_cons (pe_tup (pa_cons (pv 1) (pa_cons (SlX.pe_methSl0 (pv 0) (cl_State T) (m_State_kept T) ((ok_State_kept T).raw (b_State_kept T) .nil) (hr.mono (by decide)) pass0) pa_nil))) pa_nil)))) (pss_cons (SlX.ps_sl (pv 0) (pe_slice sl_tupA (SlX.pe_sl (pv 0)) po_none (po_some (pe_un un_neg pe_int)))) (pss_one (ps_asg (pv 2) (pg_tup rfl (pgs_cons (pg_sl (pv 0)) (pgs_cons (pg_sl (pv 0)) (pgs_cons (pg_sl (pv 0)) pgs_nil))))))))), ?_⟩
    have hne := hst.ne
    obtain ⟨nv, qv, ev, uv, vv, a0, a1, ⟨pP, wsP, rfl, hpP, hPP⟩, a3, ⟨pU, wsU, rfl, hpU, hPU⟩, a5⟩ := hst.ex
    have sl : SlX.Slt H s (c_State K) sdx [some nv, some (.ref pP), some ev, some (.ref pU), some vv] := .inr ⟨a0, hst.dx⟩
    have slH' : ∀ G vs, SlX.Slt (SlX.slH G s (c_State K) sdx vs) s (c_State K) sdx vs := fun G vs => SlX.slH_slt hne
    have hlA : wsU.length = st.undone.length := by have := hPU.length; rw [List.length_map] at this; exact this.symm
    have hlC : wsP.length = st.past.length := by have := hPP.length; rw [List.length_map] at this; exact this.symm
    have hP2 : PairR (ks.map (rEntry K) ++ [rEntry K kp]) wsU B := by
      have := hPU
      rw [hA, List.map_append] at this
      exact this
    obtain ⟨x, hx, hxe⟩ := hP2.get (i := ks.length) (R := rEntry K kp) (by rw [List.getElem?_append_right (by rw [List.length_map]; omega), List.length_map, Nat.sub_self]; rfl)
    have hkl : wsU.length = ks.length + 1 := by rw [hlA, hA, List.length_append, List.length_singleton]
    have hws : wsU = wsU.take ks.length ++ [x] := by
      have h1 : wsU.drop ks.length = [x] := by
        rw [List.drop_eq_getElem_cons (by omega)]
        have h2 := List.getElem?_eq_some_iff.mp hx
        rw [h2.2, List.drop_eq_nil_of_le (by omega)]
      conv => lhs; rw [← List.take_append_drop ks.length wsU, h1]
    obtain ⟨t, o, kt, rfl, ht, ho, hk⟩ := hxe
    refine ⟨_, rfl, s, _, sdx, _, _, 3, _, rfl, sl, cl_State T, sl_undone T, rfl, 1, rfl, ?_⟩
    refine .inr (.inl ⟨pU, wsU, _, _, rfl, rfl, sqT_same sm hpU, (by rw [hws]; exact atI_last _ _), ?_⟩)
    refine ⟨t, _, rfl, sqT_same sm ht, rfl, _, _, rfl, _, _, rfl, rfl, ?_⟩
    refine ⟨_, rfl, s, _, sdx, _, _, 1, _, rfl, sl, cl_State T, sl_past T, rfl, pP, wsP, rfl, .inl (sqT_same sm hpP), ?_⟩
    refine ⟨_, rfl, _, rfl, s, sdx, _, rfl, sl, B, s, sdx, st, rfl, hst, sm, fun kt0 B1 H1 g1 hk0 => ?_⟩
    refine ⟨line_le (show 2 ≤ 1000000 by decide), fun e he => ⟨?_, fun np hnp => ?_⟩⟩
    · rw [List.length_append, List.length_singleton]
      exact line_le (by omega)
    have g2 := g1.then0 (Gr.lay (o := .tup [o, kt0]) g1.sub he)
    have hEe : (upd B1 e (.tup [o, kt0])) e = some (.tup [o, kt0]) := upd_same
    have g3 := g2.then0 (Gr.lay (o := .tup (wsP ++ [V.ref e])) g2.sub hnp)
    have s13 : Same B1 (upd (upd B1 e (.tup [o, kt0])) np (.tup (wsP ++ [V.ref e]))) := by
      have h1 := (Gr.lay (M := M0) (o := .tup [o, kt0]) g1.sub he).base
      exact h1.trans (Gr.lay (M := M0) (o := .tup (wsP ++ [V.ref e])) g2.sub hnp).base
    generalize hB3 : (upd (upd B1 e (.tup [o, kt0])) np (.tup (wsP ++ [V.ref e]))) = B3 at g3 s13
    have hnpB : B3 np = some (.tup (wsP ++ [V.ref e])) := by rw [← hB3]; exact upd_same
    have heB : B3 e = some (.tup [o, kt0]) := by
      rw [← hB3, upd_ne (ne_of_none hEe (g2.sub.free hnp))]
      exact hEe
    have hst3 := hst.go0 g3
    refine ⟨_, rfl, s, _, sdx, _, _, 1, rfl, .inr ⟨g3.same _ _ a0, hst3.dx⟩, cl_State T, sl_past T, ?_⟩
    have gS := Gr.slot (M := SM s sdx) (C := c_State K) (vs := SlX.putS 1 (.ref np) [some nv, some (.ref pP), some ev, some (.ref pU), some vv]) g3.up hst3.hs hst3.hd (.inr (.inl rfl)) (.inr (.inr rfl))
    refine ⟨_, rfl, s, _, sdx, _, _, 3, _, rfl, slH' _ _, cl_State T, sl_undone T, rfl, 1, rfl, _, rfl, ?_⟩
    refine slA_rep gS.sub (sqT_same gS.base hpU) fun r B4 H4 g4 hr4 => ?_
    rw [cut_last hws] at hr4
    have gU := Gr.trans hst.mok gS g4.up
    refine ⟨_, rfl, s, _, sdx, _, _, 3, rfl, .inr ⟨g4.same _ _ upd_same, g4.same _ _ (by show (upd (upd _ sdx (.xd [])) s _) sdx = _; rw [upd_ne hne]; exact upd_same)⟩, cl_State T, sl_undone T, ?_⟩
    obtain ⟨t2, ka, kp', kd, rfl, ht2, k1, k2, k3⟩ := hk
    have sB : Same B B4 := gU.base
    have gV := Gr.slot (M := SM s sdx) (C := c_State K) (vs := SlX.putS 3 (.ref r) (SlX.putS 1 (.ref np) [some nv, some (.ref pP), some ev, some (.ref pU), some vv])) gU (gU.new _ _ hst.hs a0) (gU.new _ _ hst.hd hst.dx) (.inr (.inl rfl)) (.inr (.inr rfl))
    refine ⟨_, rfl, t2, _, rfl, sqT_B gV ht2, rfl, _, _, rfl, _, rfl, s, _, sdx, _, _, 2, rfl, slH' _ _, cl_State T, sl_present T, _, _, rfl, _, rfl, s, _, sdx, _, _, 4, rfl, slH' _ _, cl_State T, sl_vows T, _, _, rfl, _, rfl, s, _, sdx, _, _, 0, rfl, slH' _ _, cl_State T, sl_noted T, rfl, ?_⟩
    rw [SlX.slH_twice hne, SlX.slH_twice hne, SlX.slH_twice hne, putS31]
    have gW := Gr.slot (M := SM s sdx) (C := c_State K) (vs := [some kd, some (.ref np), some ka, some (.ref r), some kp']) gU (gU.new _ _ hst.hs a0) (gU.new _ _ hst.hd hst.dx) (.inr (.inl rfl)) (.inr (.inr rfl))
    have hA4 : rPast K ks (.ref r) B4 := ⟨r, _, rfl, hr4, by
      have h1 := (hP2.mono sB (by
        intro R hR
        rcases List.mem_append.mp hR with h | h
        · exact mem_map_mono mono_entry R h
        · rw [List.mem_singleton.mp h]
          exact mono_entry kp)).take ks.length
      rw [List.take_left' (by rw [List.length_map])] at h1
      exact h1⟩
    have hC4 : rPast K (st.past ++ [st.now]) (.ref np) B4 := by
      refine ⟨np, wsP ++ [V.ref e], rfl, .inl (.inl (g4.base _ _ hnpB)), ?_⟩
      rw [List.map_append]
      exact (hPP.mono sB (mem_map_mono mono_entry)).snoc ⟨e, o, kt0, rfl, .inl (.inl (g4.base _ _ heB)), mono_op _ _ _ sB ho, mono_kept _ _ _ _ (s13.trans g4.base) hk0⟩
    refine k _ _ gW ⟨⟨kd, (.ref np), ka, (.ref r), kp', upd_same, mono_noted _ _ _ _ sB k3, hC4, mono_stack _ _ _ _ sB k1, hA4, mono_vows _ _ _ _ sB k2⟩, ?_, gU.new _ _ hst.hs a0, gU.new _ _ hst.hd hst.dx⟩
    show (upd (upd _ sdx (.xd [])) s _) sdx = _
    rw [upd_ne hne]
    exact upd_same
end
end Lg
/-! D14 -/
set_option maxHeartbeats 4000000
namespace Lg
open PySem L2
section
variable {P : Program} {w : World} {K : PySem.W.Frag} {mg : Str → Option Value} {base : Heap}
theorem g1free {G : Hp} {t z : Addr} {o u : HO} (e : (upd G t o) z = none) (ht : G t = some u) : G z = none := by
  by_cases c : z = t
  · subst c
    rw [upd_same] at e
    cases e
  · rwa [upd_ne c] at e
def insReg (K : PySem.W.Frag) (ddx s : Addr) : HO := .ins (c_Register K) ddx [("state", .ref s)]
def insTr (K : PySem.W.Frag) (tdx d b f c : Addr) : HO := .ins (c_Trial K) tdx [("tested_desk", .ref d), ("base", .ref b), ("fresh", .ref f), ("chosen", .ref c)]
def sp_Trial_init (K : PySem.W.Frag) : Sp := fun vs H Q _ => ∃ t tdx d ddx s, vs = [.ref t, .ref d] ∧ H t = some (.ins (c_Trial K) tdx []) ∧ H d = some (insReg K ddx s) ∧ Q .non (upd H t (insTr K tdx d s s s))
theorem ok_Trial_init (T : Txt K mg) : FnOk P w K mg base CX0 1 (a_Trial_init K) (fdOf K (a_Trial_init K)) ["self", "desk"] (sp_Trial_init K) := by
  refine (f_Trial_init T).ok sc_Trial_init (fun vs H Q E h => ?_) (fun cdv A outer s0 H vs Q E hr h => ?_)
  · obtain ⟨t, tdx, d, ddx, s, rfl, _⟩ := h
    rfl
  · obtain ⟨t, tdx, d, ddx, s, rfl, ht, hd, k⟩ := h
    have hne : d ≠ t := ne_of hd ht (fun z => by injection z with _ _ h; exact absurd (congrArg List.length h) (by simp))
    refine ⟨_, (pss_cons (ps_fld (pv 0) (pv 1) rfl) (pss_cons (ps_fld (pv 0) (pe_fld (pv 1) rfl) rfl) (pss_cons (ps_fld (pv 0) (pe_fld (pv 1) rfl) rfl) (pss_one (ps_fld (pv 0) (pe_fld (pv 1) rfl) rfl))))), ?_⟩
    have hU : ∀ o, (upd H t o) d = some (insReg K ddx s) := fun o => by rw [upd_ne hne]; exact hd
    refine ⟨_, rfl, _, rfl, t, _, tdx, [], rfl, ht, cl_Trial T, na_Trial_tested_desk T, (show 0 < 1000 by decide), ?_⟩
    refine ⟨_, rfl, d, _, ddx, _, _, rfl, hU _, cl_Register T, na_Register_state T, rfl, _, rfl, t, _, tdx, _, rfl, upd_same, cl_Trial T, na_Trial_base T, (show 1 < 1000 by decide), ?_⟩
    rw [upd_upd]
    refine ⟨_, rfl, d, _, ddx, _, _, rfl, hU _, cl_Register T, na_Register_state T, rfl, _, rfl, t, _, tdx, _, rfl, upd_same, cl_Trial T, na_Trial_fresh T, (show 2 < 1000 by decide), ?_⟩
    rw [upd_upd]
    refine ⟨_, rfl, d, _, ddx, _, _, rfl, hU _, cl_Register T, na_Register_state T, rfl, _, rfl, t, _, tdx, _, rfl, upd_same, cl_Trial T, na_Trial_chosen T, (show 3 < 1000 by decide), ?_⟩
    rw [upd_upd]
    exact k
def sp_Trial_hold (K : PySem.W.Frag) : Sp := fun vs H Q _ => ∃ t tdx d b f c, vs = [.ref t] ∧ H t = some (insTr K tdx d b f c) ∧ Q .non (upd H t (insTr K tdx d b f f))
theorem ok_Trial_hold (T : Txt K mg) : FnOk P w K mg base CX0 1 (a_Trial_hold K) (fdOf K (a_Trial_hold K)) ["self"] (sp_Trial_hold K) := by
  refine (f_Trial_hold T).ok sc_Trial_hold (fun vs H Q E h => ?_) (fun cdv A outer s0 H vs Q E hr h => ?_)
  · obtain ⟨t, tdx, d, b, f, c, rfl, _⟩ := h
    rfl
  · obtain ⟨t, tdx, d, b, f, c, rfl, ht, k⟩ := h
    refine ⟨_, (pss_one (ps_fld (pv 0) (pe_fld (pv 0) rfl) rfl)), ?_⟩
    exact ⟨_, rfl, t, _, tdx, _, _, rfl, ht, cl_Trial T, na_Trial_fresh T, rfl, _, rfl, t, _, tdx, _, rfl, ht, cl_Trial T, na_Trial_chosen T, (show 4 < 1000 by decide), k⟩
def sp_Trial_enter (K : PySem.W.Frag) : Sp := fun vs H Q _ => ∃ (B : Hp) (t tdx d ddx s sdx b0 f0 c0 : Addr) (st : Stt), vs = [.ref t] ∧ H t = some (insTr K tdx d b0 f0 c0) ∧ H d = some (insReg K ddx s) ∧ B t = none ∧ B d = none ∧ StAt K B H s sdx st ∧ Same B H ∧
  ∀ n1 x1 n2 x2 B' H', Gr (fun z => z = t ∨ z = d) B H B' H' → H' t = some (insTr K tdx d s n2 n1) → H' d = some (insReg K ddx n2) → StAt K B' H' n1 x1 st → StAt K B' H' n2 x2 st → (H n1 = none ∧ H x1 = none ∧ H n2 = none ∧ H x2 = none) →
    (n1 ≠ n2 ∧ n1 ≠ x2 ∧ x1 ≠ n2 ∧ x1 ≠ x2) → Q (.ref t) H'
theorem ok_Trial_enter (T : Txt K mg) : FnOk P w K mg base CX0 4 (a_Trial_enter K) (fdOf K (a_Trial_enter K)) ["self"] (sp_Trial_enter K) := by
  refine (f_Trial_enter T).ok sc_Trial_enter (fun vs H Q E h => ?_) (fun cdv A outer s0 H vs Q E hr h => ?_)
  · obtain ⟨B, t, tdx, d, ddx, s, sdx, b0, f0, c0, st, rfl, _⟩ := h
    rfl
  · obtain ⟨B, t, tdx, d, ddx, s, sdx, b0, f0, c0, st, rfl, ht, hd, hBt, hBd, hst, sm, k⟩ := h
    refine ⟨_, (pss_cons (ps_fld (pv 0) (pe_fld (pe_fld (pv 0) rfl) rfl) rfl) (pss_cons (ps_fld (pv 0) (SlX.pe_methSl0 (pe_fld (pv 0) rfl) (cl_State T) (m_State_copied T) ((ok_State_copied T).raw (b_State_copied T) .nil) (hr.mono (by decide)) pass0) rfl) (pss_cons (ps_fld (pv 0) (SlX.pe_methSl0 (pe_fld (pv 0) rfl) (cl_State T) (m_State_copied T) ((ok_State_copied T).raw (b_State_copied T) .nil) (hr.mono (by decide)) pass0) rfl) (pss_cons (ps_fld (pe_fld (pv 0) rfl) (pe_fld (pv 0) rfl) rfl) (pss_one (ps_ret (pv 0))))))), ?_⟩
    obtain ⟨nv, qv, ev, uv, vv, a0, a1, a2, a3, a4, a5⟩ := hst.ex
    have hdt : d ≠ t := ne_of hd ht (fun z => by injection z with _ _ h; exact absurd (congrArg List.length h) (by simp))
    have hts : t ≠ s := ne_of ht a0 (fun z => by cases z)
    have htx : t ≠ sdx := ne_of ht hst.dx (fun z => by cases z)
    have hds : d ≠ s := ne_of hd a0 (fun z => by cases z)
    have hdx : d ≠ sdx := ne_of hd hst.dx (fun z => by cases z)
    have m0 : MOk (fun z => z = t ∨ z = d) B H := fun z e => by
      rcases e with rfl | rfl
      · exact ⟨hBt, _, ht⟩
      · exact ⟨hBd, _, hd⟩
    have nS : ¬ (s = t ∨ s = d) := fun z => z.elim (fun e => hts e.symm) (fun e => hds e.symm)
    have nX : ¬ (sdx = t ∨ sdx = d) := fun z => z.elim (fun e => htx e.symm) (fun e => hdx e.symm)
    refine ⟨_, rfl, t, _, tdx, _, _, rfl, ht, cl_Trial T, na_Trial_tested_desk T, rfl, d, _, ddx, _, _, rfl, hd, cl_Register T, na_Register_state T, rfl, _, rfl, t, _, tdx, _, rfl, ht, cl_Trial T, na_Trial_base T, (show 4 < 1000 by decide), ?_⟩
    have g1 : Gr (fun z => z = t ∨ z = d) B H B (upd H t (insTr K tdx d s f0 c0)) := Gr.set sm hBt (.inl rfl)
    have st1 := hst.go g1 nS nX
    obtain ⟨nv1, qv1, ev1, uv1, vv1, b0', _⟩ := st1.ex
    refine ⟨_, rfl, t, _, tdx, _, _, rfl, upd_same, cl_Trial T, na_Trial_base T, rfl, s, sdx, _, rfl, .inr ⟨b0', st1.dx⟩, B, s, sdx, st, rfl, st1, g1.sub, fun n1 x1 B1 H1 g2 e1 e2 hs1 => ?_⟩
    have g12 := Gr.trans m0 g1 g2.up
    have ht1 := g2.same _ _ (upd_same (H := H) (a := t) (o := insTr K tdx d s f0 c0))
    refine ⟨_, rfl, t, _, tdx, _, rfl, ht1, cl_Trial T, na_Trial_chosen T, (show 4 < 1000 by decide), ?_⟩
    have g3 := Gr.set' (o := insTr K tdx d s f0 n1) g12 (g12.new _ _ hBt ht) (.inl rfl)
    have st3 := hst.go g3 nS nX
    obtain ⟨nv3, qv3, ev3, uv3, vv3, c0', _⟩ := st3.ex
    refine ⟨_, rfl, t, _, tdx, _, _, rfl, upd_same, cl_Trial T, na_Trial_base T, rfl, s, sdx, _, rfl, .inr ⟨c0', st3.dx⟩, B1, s, sdx, st, rfl, st3, g3.sub, fun n2 x2 B2 H2 g4 e3 e4 hs2 => ?_⟩
    have g34 := Gr.trans m0 g3 g4.up
    have ht2 := g4.same _ _ (upd_same (H := H1) (a := t) (o := insTr K tdx d s f0 n1))
    refine ⟨_, rfl, t, _, tdx, _, rfl, ht2, cl_Trial T, na_Trial_fresh T, (show 4 < 1000 by decide), ?_⟩
    have g5 := Gr.set' (o := insTr K tdx d s n2 n1) g34 (g34.new _ _ hBt ht) (.inl rfl)
    have hd2 : H2 d = some (insReg K ddx s) := by
      have h1 : (upd H t (insTr K tdx d s f0 c0)) d = some (insReg K ddx s) := by rw [upd_ne hdt]; exact hd
      have h2 := g2.same _ _ h1
      have h3 : (upd H1 t (insTr K tdx d s f0 n1)) d = some (insReg K ddx s) := by rw [upd_ne hdt]; exact h2
      exact g4.same _ _ h3
    have hd3 : (upd H2 t (insTr K tdx d s n2 n1)) d = some (insReg K ddx s) := by rw [upd_ne hdt]; exact hd2
    refine ⟨_, rfl, t, _, tdx, _, _, rfl, upd_same, cl_Trial T, na_Trial_fresh T, rfl, _, rfl, t, _, tdx, _, _, rfl, upd_same, cl_Trial T, na_Trial_tested_desk T, rfl, d, _, ddx, _, rfl, hd3, cl_Register T, na_Register_state T, (show 1 < 1000 by decide), ?_⟩
    have g6 := Gr.set' (o := insReg K ddx n2) g5 (g5.new _ _ hBd hd) (.inr rfl)
    -- what is new stands apart
    have fr : ∀ z, (upd H t (insTr K tdx d s f0 c0)) z = none → H z = none ∧ z ≠ t ∧ z ≠ d := fun z e => by
      refine ⟨g1free e ht, fun c => ?_, fun c => ?_⟩
      · subst c
        rw [upd_same] at e
        cases e
      · subst c
        rw [upd_ne hdt, hd] at e
        cases e
    obtain ⟨f1, f2, f3⟩ := fr _ e1
    obtain ⟨f4, f5, f6⟩ := fr _ e2
    have old : ∀ z o, H1 z = some o → z ≠ t → (upd H1 t (insTr K tdx d s f0 n1)) z = some o := fun z o e c => by rw [upd_ne c]; exact e
    obtain ⟨_, _, _, _, _, q1, _⟩ := hs1.ex
    have k1 := old _ _ q1 f2
    have k2 := old _ _ hs1.dx f5
    have hs1' : StAt K _ _ n1 x1 st := (hs1.go (Gr.set (M := fun z => z = t) (o := insTr K tdx d s f0 n1) g2.sub (g12.new _ _ hBt ht) rfl) f2 f5).go0 g4
    have h1t : H n1 = none := f1
    have hn2 : H n2 = none ∧ n2 ≠ t ∧ n2 ≠ d := by
      have c1 : H1 n2 = none := g1free e3 ht1
      have c2 := g2.same.free c1
      exact fr _ c2
    have hx2 : H x2 = none ∧ x2 ≠ t ∧ x2 ≠ d := by
      have c1 : H1 x2 = none := g1free e4 ht1
      have c2 := g2.same.free c1
      exact fr _ c2
    refine ⟨_, rfl, k n1 x1 n2 x2 B2 _ g6 ?_ upd_same ?_ ?_ ⟨f1, f4, hn2.1, hx2.1⟩ ⟨ne_of_none k1 e3, ne_of_none k1 e4, ne_of_none k2 e3, ne_of_none k2 e4⟩⟩
    · rw [upd_ne (Ne.symm hdt)]
      exact upd_same
    · have gg : Gr (fun z => z = t ∨ z = d) B2 H2 B2 (upd (upd H2 t (insTr K tdx d s n2 n1)) d (insReg K ddx n2)) := Gr.set' (Gr.set g4.sub (g34.new _ _ hBt ht) (.inl rfl)) (g34.new _ _ hBd hd) (.inr rfl)
      exact hs1'.go gg (fun z => z.elim f2 f3) (fun z => z.elim f5 f6)
    · have gg : Gr (fun z => z = t ∨ z = d) B2 H2 B2 (upd (upd H2 t (insTr K tdx d s n2 n1)) d (insReg K ddx n2)) := Gr.set' (Gr.set g4.sub (g34.new _ _ hBt ht) (.inl rfl)) (g34.new _ _ hBd hd) (.inr rfl)
      exact hs2.go gg (fun z => z.elim hn2.2.1 hn2.2.2) (fun z => z.elim hx2.2.1 hx2.2.2)
theorem putS5 (nv qv ev uv vv n p e u v : V) : SlX.putS 3 u (SlX.putS 1 p (SlX.putS 0 n (SlX.putS 4 v (SlX.putS 2 e [some nv, some qv, some ev, some uv, some vv])))) = [some n, some p, some e, some u, some v] := by kernel_rfl
def sp_Trial_exit (K : PySem.W.Frag) : Sp := fun vs H Q _ => ∃ (B : Hp) (t tdx d ddx s b bdx f c cdx : Addr) (stb stc : Stt), vs = [.ref t, .non, .non, .non] ∧ H t = some (insTr K tdx d b f c) ∧ H d = some (insReg K ddx s) ∧ B d = none ∧ StAt K B H b bdx stb ∧ StAt K B H c cdx stc ∧ (c ≠ b ∧ c ≠ bdx ∧ cdx ≠ b ∧ cdx ≠ bdx) ∧ Same B H ∧
  ∀ H', Gr (fun z => z = b ∨ z = bdx ∨ z = d) B H B H' → StAt K B H' b bdx stc → H' d = some (insReg K ddx b) → Q .non H'
theorem ok_Trial_exit (T : Txt K mg) : FnOk P w K mg base CX0 1 (a_Trial_exit K) (fdOf K (a_Trial_exit K)) ["self", "kind", "error", "trace"] (sp_Trial_exit K) := by
  refine (f_Trial_exit T).ok sc_Trial_exit (fun vs H Q E h => ?_) (fun cdv A outer s0 H vs Q E hr h => ?_)
  · obtain ⟨B, t, tdx, d, ddx, s, b, bdx, f, c, cdx, stb, stc, rfl, _⟩ := h
    rfl
  · obtain ⟨B, t, tdx, d, ddx, s, b, bdx, f, c, cdx, stb, stc, rfl, ht, hd, hBd, hb, hc, ⟨n1, n2, n3, n4⟩, sm, k⟩ := h
    refine ⟨_, (pss_cons (SlX.ps_sl (pe_fld (pv 0) rfl) (SlX.pe_sl (pe_fld (pv 0) rfl))) (pss_cons (SlX.ps_sl (pe_fld (pv 0) rfl) (SlX.pe_sl (pe_fld (pv 0) rfl))) (pss_cons (SlX.ps_sl (pe_fld (pv 0) rfl) (SlX.pe_sl (pe_fld (pv 0) rfl))) (pss_cons (SlX.ps_sl (pe_fld (pv 0) rfl) (SlX.pe_sl (pe_fld (pv 0) rfl))) (pss_cons (SlX.ps_sl (pe_fld (pv 0) rfl) (SlX.pe_sl (pe_fld (pv 0) rfl))) (pss_one (ps_fld (pe_fld (pv 0) rfl) (pe_fld (pv 0) rfl) rfl))))))), ?_⟩
    have hne := hb.ne
    obtain ⟨nv, qv, ev, uv, vv, a0, _⟩ := hb.ex
    obtain ⟨cn, cp, ce, cu, cv, c0, c1, c2, c3, c4, c5⟩ := hc.ex
    have htb : t ≠ b := ne_of ht a0 (fun z => by cases z)
    have htx : t ≠ bdx := ne_of ht hb.dx (fun z => by cases z)
    have hdb : d ≠ b := ne_of hd a0 (fun z => by cases z)
    have hdx : d ≠ bdx := ne_of hd hb.dx (fun z => by cases z)
    have slB : SlX.Slt H b (c_State K) bdx [some nv, some qv, some ev, some uv, some vv] := .inr ⟨a0, hb.dx⟩
    have slC : SlX.Slt H c (c_State K) cdx [some cn, some cp, some ce, some cu, some cv] := .inr ⟨c0, hc.dx⟩
    have slBS : ∀ vs, SlX.Slt (SlX.slH H b (c_State K) bdx vs) b (c_State K) bdx vs := fun vs => SlX.slH_slt hne
    have slCS : ∀ vs, SlX.Slt (SlX.slH H b (c_State K) bdx vs) c (c_State K) cdx [some cn, some cp, some ce, some cu, some cv] := fun vs => .inr ⟨by rw [SlX.slH_ne n1 n2]; exact c0, by rw [SlX.slH_ne n3 n4]; exact hc.dx⟩
    have htS : ∀ vs, (SlX.slH H b (c_State K) bdx vs) t = some (insTr K tdx d b f c) := fun vs => by rw [SlX.slH_ne htb htx]; exact ht
    have hdS : ∀ vs, (SlX.slH H b (c_State K) bdx vs) d = some (insReg K ddx s) := fun vs => by rw [SlX.slH_ne hdb hdx]; exact hd
    refine ⟨_, rfl, t, _, tdx, _, _, rfl, ht, cl_Trial T, na_Trial_chosen T, rfl, c, _, cdx, _, _, 2, _, rfl, slC, cl_State T, sl_present T, rfl, _, rfl, t, _, tdx, _, _, rfl, ht, cl_Trial T, na_Trial_base T, rfl, b, _, bdx, _, _, 2, rfl, slB, cl_State T, sl_present T, ?_⟩
    refine ⟨_, rfl, t, _, tdx, _, _, rfl, htS _, cl_Trial T, na_Trial_chosen T, rfl, c, _, cdx, _, _, 4, _, rfl, slCS _, cl_State T, sl_vows T, rfl, _, rfl, t, _, tdx, _, _, rfl, htS _, cl_Trial T, na_Trial_base T, rfl, b, _, bdx, _, _, 4, rfl, slBS _, cl_State T, sl_vows T, ?_⟩
    rw [SlX.slH_twice hne]
    refine ⟨_, rfl, t, _, tdx, _, _, rfl, htS _, cl_Trial T, na_Trial_chosen T, rfl, c, _, cdx, _, _, 0, _, rfl, slCS _, cl_State T, sl_noted T, rfl, _, rfl, t, _, tdx, _, _, rfl, htS _, cl_Trial T, na_Trial_base T, rfl, b, _, bdx, _, _, 0, rfl, slBS _, cl_State T, sl_noted T, ?_⟩
    rw [SlX.slH_twice hne]
    refine ⟨_, rfl, t, _, tdx, _, _, rfl, htS _, cl_Trial T, na_Trial_chosen T, rfl, c, _, cdx, _, _, 1, _, rfl, slCS _, cl_State T, sl_past T, rfl, _, rfl, t, _, tdx, _, _, rfl, htS _, cl_Trial T, na_Trial_base T, rfl, b, _, bdx, _, _, 1, rfl, slBS _, cl_State T, sl_past T, ?_⟩
    rw [SlX.slH_twice hne]
    refine ⟨_, rfl, t, _, tdx, _, _, rfl, htS _, cl_Trial T, na_Trial_chosen T, rfl, c, _, cdx, _, _, 3, _, rfl, slCS _, cl_State T, sl_undone T, rfl, _, rfl, t, _, tdx, _, _, rfl, htS _, cl_Trial T, na_Trial_base T, rfl, b, _, bdx, _, _, 3, rfl, slBS _, cl_State T, sl_undone T, ?_⟩
    rw [SlX.slH_twice hne]
    rw [putS5]
    refine ⟨_, rfl, t, _, tdx, _, _, rfl, htS _, cl_Trial T, na_Trial_base T, rfl, _, rfl, t, _, tdx, _, _, rfl, htS _, cl_Trial T, na_Trial_tested_desk T, rfl, d, _, ddx, _, rfl, hdS _, cl_Register T, na_Register_state T, (show 1 < 1000 by decide), ?_⟩
    have g1 := Gr.slot (C := c_State K) (vs := [some cn, some cp, some ce, some cu, some cv]) (Gr.refl (M := fun z => z = b ∨ z = bdx ∨ z = d) sm) hb.hs hb.hd (.inr (.inl rfl)) (.inr (.inr (.inl rfl)))
    have g2 := Gr.set' (o := insReg K ddx b) g1 hBd (.inr (.inr rfl))
    refine k _ g2 ⟨⟨cn, cp, ce, cu, cv, ?_, c1, c2, c3, c4, c5⟩, ?_, hb.hs, hb.hd⟩ upd_same
    · rw [upd_ne (Ne.symm hdb)]
      exact upd_same
    · rw [upd_ne (Ne.symm hdx)]
      show (upd (upd H bdx (.xd [])) b _) bdx = _
      rw [upd_ne hne]
      exact upd_same
end
end Lg
/-! D15 -/
set_option maxHeartbeats 4000000
namespace Lg
open PySem L2
section
variable {P : Program} {w : World} {K : PySem.W.Frag} {mg : Str → Option Value} {base : Heap}
structure Dk (K : PySem.W.Frag) (B H : Hp) (d ddx s sdx : Addr) (st : Stt) : Prop where
  hd : H d = some (insReg K ddx s)
  hb : B d = none
  st : StAt K B H s sdx st
theorem Dk.go0 {B H B1 H1 : Hp} {d ddx s sdx : Addr} {st : Stt} (h : Dk K B H d ddx s sdx st) (g : Gr M0 B H B1 H1) : Dk K B1 H1 d ddx s sdx st := ⟨g.same _ _ h.hd, g.new _ _ h.hb h.hd, h.st.go0 g⟩
theorem Dk.ne {B H : Hp} {d ddx s sdx : Addr} {st : Stt} (h : Dk K B H d ddx s sdx st) : d ≠ s ∧ d ≠ sdx := by
  obtain ⟨nv, qv, ev, uv, vv, a0, _⟩ := h.st.ex
  exact ⟨ne_of h.hd a0 (fun z => by cases z), ne_of h.hd h.st.dx (fun z => by cases z)⟩
theorem Dk.goS {B H B1 H1 : Hp} {d ddx s sdx : Addr} {st st' : Stt} (h : Dk K B H d ddx s sdx st) (g : Gr (SM s sdx) B H B1 H1) (hs : StAt K B1 H1 s sdx st') : Dk K B1 H1 d ddx s sdx st' :=
  ⟨g.keep _ _ (fun z => z.elim h.ne.1 h.ne.2) h.hd, g.new _ _ h.hb h.hd, hs⟩
def sp_Register_init (K : PySem.W.Frag) : Sp := fun vs H Q _ => ∃ (B : Hp) (d ddx : Addr) (v : V) (es : List En), vs = [.ref d, v] ∧ H d = some (.ins (c_Register K) ddx []) ∧ B d = none ∧ rStack K es v B ∧ Same B H ∧
  ∀ s sdx B' H', Gr (fun z => z = d) B H B' H' → Dk K B' H' d ddx s sdx ⟨⟨es, [], []⟩, [], []⟩ → Q .non H'
theorem ok_Register_init (T : Txt K mg) : FnOk P w K mg base CX0 3 (a_Register_init K) (fdOf K (a_Register_init K)) ["self", "stack"] (sp_Register_init K) := by
  refine (f_Register_init T).ok sc_Register_init (fun vs H Q E h => ?_) (fun cdv A outer s0 H vs Q E hr h => ?_)
  · obtain ⟨B, d, ddx, v, es, rfl, _⟩ := h
    rfl
  · obtain ⟨B, d, ddx, v, es, rfl, hd, hB, hv, sm, k⟩ := h
    refine ⟨_, (pss_one (ps_fld (pv 0) (pe_make (mk_State T) (ok_State_init T) (hr.mono (by decide)) (by rfl) (g_State T) (b_State_init T) .nil pass0 (pa_cons (pe_tup (pa_cons (pv 1) (pa_cons (pe_tup pa_nil) (pa_cons pe_dnewK pa_nil)))) (pa_cons (pe_tup pa_nil) (pa_cons (pe_tup pa_nil) pa_nil)))) rfl)), ?_⟩
    refine ⟨_, rfl, line_le (show 0 ≤ 1000000 by decide), fun p1 h1 => ?_⟩
    have g1 : Gr M0 B H _ _ := Gr.lay (o := .tup []) sm h1
    refine fun p2 h2 => ⟨line_le (show 3 ≤ 1000000 by decide), fun p3 h3 => ⟨line_le (show 0 ≤ 1000000 by decide), fun p4 h4 => ⟨line_le (show 0 ≤ 1000000 by decide), fun p5 h5 => ?_⟩⟩⟩
    have g2 := g1.then0 (Gr.lay (o := .dK []) g1.sub h2)
    have g3 := g2.then0 (Gr.lay (o := .tup [v, .ref p1, .ref p2]) g2.sub h3)
    have g4 := g3.then0 (Gr.lay (o := .tup []) g3.sub h4)
    have g5 := g4.then0 (Gr.lay (o := .tup []) g4.sub h5)
    generalize hB5 : upd (upd (upd (upd (upd B p1 (.tup [])) p2 (.dK [])) p3 (.tup [v, .ref p1, .ref p2])) p4 (.tup [])) p5 (.tup []) = B5 at g5
    have b5 : B5 p5 = some (.tup []) := by rw [← hB5]; exact upd_same
    have u4 : ∀ z o, (upd (upd (upd (upd B p1 (.tup [])) p2 (.dK [])) p3 (.tup [v, .ref p1, .ref p2])) p4 (.tup [])) z = some o → B5 z = some o := fun z o e => by
      rw [← hB5, upd_ne (ne_of_none e (g4.sub.free h5))]; exact e
    have b4 : B5 p4 = some (.tup []) := u4 _ _ upd_same
    have u3 : ∀ z o, (upd (upd (upd B p1 (.tup [])) p2 (.dK [])) p3 (.tup [v, .ref p1, .ref p2])) z = some o → B5 z = some o := fun z o e => u4 _ _ (by
      rw [upd_ne (ne_of_none e (g3.sub.free h4))]; exact e)
    have b3 : B5 p3 = some (.tup [v, .ref p1, .ref p2]) := u3 _ _ upd_same
    have u2 : ∀ z o, (upd (upd B p1 (.tup [])) p2 (.dK [])) z = some o → B5 z = some o := fun z o e => u3 _ _ (by
      rw [upd_ne (ne_of_none e (g2.sub.free h3))]; exact e)
    have b2 : B5 p2 = some (.dK []) := u2 _ _ upd_same
    have b1 : B5 p1 = some (.tup []) := u2 _ _ (by
      have e : (upd B p1 (.tup [])) p1 = some (.tup []) := upd_same
      rw [upd_ne (ne_of_none e (g1.sub.free h2))]; exact e)
    obtain ⟨va, vdx, vp, vs', vn, vxs, vws, rfl, _⟩ := id hv
    dsimp only [tNil]
    refine mk_state (B := B5) (st := ⟨⟨es, [], []⟩, [], []⟩) ⟨p3, .ref va, .ref p1, .ref p2, rfl, .inl (.inl b3), mono_stack _ _ _ _ g5.base hv, ⟨p1, [], rfl, .inl (.inl b1), trivial⟩, p2, [], rfl, b2, rfl⟩ ⟨p4, [], rfl, .inl (.inl b4), trivial⟩ ⟨p5, [], rfl, .inl (.inl b5), trivial⟩ g5.sub (fun s sdx B' H' g e1 e2 hs => ?_)
    have gT := g5.then0 g
    have hd' := gT.same _ _ hd
    refine ⟨_, rfl, d, _, ddx, _, rfl, hd', cl_Register T, na_Register_state T, (show 0 < 1000 by decide), ?_⟩
    have gS := Gr.set' (M := fun z => z = d) (o := insReg K ddx s) gT.up (gT.new _ _ hB hd) rfl
    have gD : Gr (fun z => z = d) B' H' B' (upd H' d (insReg K ddx s)) := Gr.set gT.sub (gT.new _ _ hB hd) rfl
    have nd : s ≠ d ∧ sdx ≠ d := by
      obtain ⟨nv, qv, ev, uv, vv, a0, _⟩ := hs.ex
      exact ⟨ne_of a0 hd' (fun z => by cases z), ne_of hs.dx hd' (fun z => by cases z)⟩
    exact k s sdx B' _ gS ⟨upd_same, gT.new _ _ hB hd, hs.go gD nd.1 nd.2⟩
def sp_Register_stack (K : PySem.W.Frag) : Sp := fun vs H Q _ => ∃ (B : Hp) (d ddx s sdx : Addr) (st : Stt), vs = [.ref d] ∧ Dk K B H d ddx s sdx st ∧ ∀ v, rStack K st.now.es v B → Q v H
theorem ok_Register_stack (T : Txt K mg) : FnOk P w K mg base CX0 1 (a_Register_stack K) (fdOf K (a_Register_stack K)) ["self"] (sp_Register_stack K) := by
  refine (f_Register_stack T).ok sc_Register_stack (fun vs H Q E h => ?_) (fun cdv A outer s0 H vs Q E hr h => ?_)
  · obtain ⟨B, d, ddx, s, sdx, st, rfl, _⟩ := h
    rfl
  · obtain ⟨B, d, ddx, s, sdx, st, rfl, hD, k⟩ := h
    refine ⟨_, (pss_one (ps_ret (SlX.pe_sl (pe_fld (pv 0) rfl)))), ?_⟩
    obtain ⟨nv, qv, ev, uv, vv, a0, a1, a2, a3, a4, a5⟩ := hD.st.ex
    exact ⟨_, rfl, d, _, ddx, _, _, rfl, hD.hd, cl_Register T, na_Register_state T, rfl, s, _, sdx, _, _, 2, _, rfl, .inr ⟨a0, hD.st.dx⟩, cl_State T, sl_present T, rfl, k _ a3⟩
def sp_promises (K : PySem.W.Frag) : Sp := fun vs H Q _ => ∃ (B : Hp) (d ddx s sdx : Addr) (st : Stt), vs = [.ref d] ∧ Dk K B H d ddx s sdx st ∧ st.now.vows.length ≤ 1000 ∧ Same B H ∧ Ret B H (RLst (st.now.vows.map (rRow K))) Q
theorem ok_Register_promises (T : Txt K mg) : FnOk P w K mg base CX0 1 (a_Register_promises K) (fdOf K (a_Register_promises K)) ["self"] (sp_promises K) := by
  refine (f_Register_promises T).ok sc_Register_promises (fun vs H Q E h => ?_) (fun cdv A outer s0 H vs Q E hr h => ?_)
  · obtain ⟨B, d, ddx, s, sdx, st, rfl, _⟩ := h
    rfl
  · obtain ⟨B, d, ddx, s, sdx, st, rfl, hD, hl, sm, k⟩ := h
    refine ⟨_, (pss_one (ps_ret (pe_lc (own := [("known", 1), ("word", 2)]) (by rfl) sc_Register_promises.nd (pi_tup (SlX.pe_sl (pe_fld (pv 0) rfl))) (blkOk_by (own := [("known", 1), ("word", 2)]) (N := N_Register_promises) (sc := defScope s_Register_promises) (by decide +kernel)) (fun _ _ _ _ _ => (pg_tupB K 2 rfl (pgs_cons (pg_name (i := 1) sc_Register_promises.nd rfl (Or.inl rfl)) (pgs_cons (pg_name (i := 2) sc_Register_promises.nd rfl (Or.inl rfl)) pgs_nil)))) (fun _ _ _ _ _ => pts_nil) (fun _ _ _ _ _ => (pe_tup (pa_cons (pe_callTy call_dictD (by rfl) (n_dict T) (by decide +kernel) (pa_cons (pv 1) pa_nil)) (pa_cons (pv 2) pa_nil))))))), ?_⟩
    obtain ⟨nv, qv, ev, uv, vv, a0, a1, a2, a3, a4, ⟨p, ws, rfl, hp, hP⟩⟩ := hD.st.ex
    refine ⟨_, rfl, d, _, ddx, _, _, rfl, hD.hd, cl_Register T, na_Register_state T, rfl, s, _, sdx, _, _, 4, _, rfl, .inr ⟨a0, hD.st.dx⟩, cl_State T, sl_vows T, rfl, p, rfl, ⟨ws, sqT_same sm hp⟩, fun D hDn => ?_⟩
    refine lc_dat (walk_tup (xs := ws)) (M := M0) (B1 := B) st.now.vows (fun _ => true) (rRow K) (rRow K) mono_row mono_row hP rfl sm hDn mok0 (by omega) (fun B2 H2 g => sqT_B g hp) (fun r x B2 H2 hr2 hx g Ky Kn ky kn => ?_) (fun zs B2 H2 g hz hP2 => ?_)
    · obtain ⟨t, e, rfl, ht, he⟩ := hx
      refine ⟨t, _, rfl, sqT_same g.sub ht, rfl, _, _, rfl, _, _, rfl, rfl, rfl, ?_⟩
      refine ⟨_, rfl, e, _, rfl, .inl (g.sub _ _ he), fun q hq => ⟨_, rfl, line_le (show 2 ≤ 1000000 by decide), fun n hn => ?_⟩⟩
      have g1 := Gr.lay (M := M0) (o := .dK (ansV r.1)) g.sub hq
      have hq1 : (upd B2 q (.dK (ansV r.1))) q = some (.dK (ansV r.1)) := upd_same
      have g2 := g1.then0 (Gr.lay (o := .tup [.ref q, .str r.2]) g1.sub hn)
      exact ky rfl _ _ _ g2 ⟨n, q, rfl, .inl (.inl upd_same), by rw [upd_ne (ne_of_none hq1 (g1.sub.free hn))]; exact hq1⟩
    · rw [filter_all] at hP2
      exact k _ _ _ g ⟨D, zs, rfl, hz, hP2⟩
end
end Lg
/-! D16 -/
set_option maxHeartbeats 4000000
namespace Lg
open PySem L2
section
variable {P : Program} {w : World} {K : PySem.W.Frag} {mg : Str → Option Value} {base : Heap}
def sp_undo (K : PySem.W.Frag) : Sp := fun vs H Q _ => ∃ (B : Hp) (d ddx s sdx : Addr) (st : Stt), vs = [.ref d] ∧ Dk K B H d ddx s sdx st ∧ st.past.length ≤ 1000 ∧ st.undone.length ≤ 1000 ∧ Same B H ∧ (st.past = [] → Ret B H (RV (.bl false)) Q) ∧
  ∀ ks k, st.past = ks ++ [k] → ∀ B' H', Gr (SM s sdx) B H B' H' → Dk K B' H' d ddx s sdx ⟨k, ks, st.undone ++ [st.now]⟩ → Q (.bl true) H'
theorem ok_Register_undo (T : Txt K mg) : FnOk P w K mg base CX0 3 (a_Register_undo K) (fdOf K (a_Register_undo K)) ["self"] (sp_undo K) := by
  refine (f_Register_undo T).ok sc_Register_undo (fun vs H Q E h => ?_) (fun cdv A outer s0 H vs Q E hr h => ?_)
  · obtain ⟨B, d, ddx, s, sdx, st, rfl, _⟩ := h
    rfl
  · obtain ⟨B, d, ddx, s, sdx, st, rfl, hD, hl1, hl2, sm, k0, k1⟩ := h
    refine ⟨_, (pss_cons (ps_if (pt_cmpR (op_eqT0 (hu_of hr)) (SlX.pe_sl (pe_fld (pv 0) rfl)) (pe_tup pa_nil) (nomark _)) (pss_one (ps_ret pe_bl)) pss_nil) (pss_cons (ps_expr (SlX.pe_methSl0 (pe_fld (pv 0) rfl) (cl_State T) (m_State_go_back T) ((ok_State_go_back T).raw (b_State_go_back T) .nil) (hr.mono (by decide)) pass0)) (pss_one (ps_ret pe_bl)))), ?_⟩
    obtain ⟨nv, qv, ev, uv, vv, a0, a1, ⟨p1, w1, rfl, hp1, hP1⟩, a3, ⟨p3, w3, rfl, hp3, hP3⟩, a5⟩ := hD.st.ex
    have sl : SlX.Slt H s (c_State K) sdx [some nv, some (.ref p1), some ev, some (.ref p3), some vv] := .inr ⟨a0, hD.st.dx⟩
    have hwl : w1.length = st.past.length := by have := hP1.length; rw [List.length_map] at this; exact this.symm
    refine ⟨_, rfl, d, _, ddx, _, _, rfl, hD.hd, cl_Register T, na_Register_state T, rfl, s, _, sdx, _, _, 1, _, rfl, sl, cl_State T, sl_past T, rfl, line_le (show 0 ≤ 1000000 by decide), fun q hq => ?_⟩
    have g1 : Gr M0 B H B (upd H q (.tup [])) := Gr.hid sm hq
    refine ⟨p1, q, w1, rfl, rfl, sqT_same g1.sub hp1, .inl (.inl upd_same), w1.isEmpty, rfl, ?_⟩
    have hD1 := hD.go0 g1
    by_cases c : st.past = []
    · have hw : w1 = [] := List.length_eq_zero_iff.mp (by rw [hwl, c]; rfl)
      rw [hw]
      exact iteT (k0 c _ _ _ g1 rfl)
    · have hw : w1.isEmpty = false := by
        cases hq2 : w1 with
        | nil =>
          rw [hq2] at hwl
          exact absurd (List.length_eq_zero_iff.mp hwl.symm) c
        | cons x xs => rfl
      rw [hw]
      obtain ⟨ks, kp, hk⟩ : ∃ ks kp, st.past = ks ++ [kp] := ⟨st.past.dropLast, st.past.getLast c, (List.dropLast_concat_getLast c).symm⟩
      refine iteF ⟨_, rfl, d, _, ddx, _, _, rfl, hD1.hd, cl_Register T, na_Register_state T, rfl, s, sdx, _, rfl, .inr ⟨g1.same _ _ a0, hD1.st.dx⟩, B, s, sdx, ks, kp, st, rfl, hD1.st, hk, hl1, hl2, g1.sub, fun B' H' g hs => ?_⟩
      have gT : Gr (SM s sdx) B H B' H' := Gr.trans hD.st.mok g1.up g
      exact k1 ks kp hk B' H' gT (hD1.goS g hs)
def sp_redo (K : PySem.W.Frag) : Sp := fun vs H Q _ => ∃ (B : Hp) (d ddx s sdx : Addr) (st : Stt), vs = [.ref d] ∧ Dk K B H d ddx s sdx st ∧ st.past.length ≤ 1000 ∧ st.undone.length ≤ 1000 ∧ Same B H ∧ (st.undone = [] → Ret B H (RV (.bl false)) Q) ∧
  ∀ ks k, st.undone = ks ++ [k] → ∀ B' H', Gr (SM s sdx) B H B' H' → Dk K B' H' d ddx s sdx ⟨k, st.past ++ [st.now], ks⟩ → Q (.bl true) H'
theorem ok_Register_redo (T : Txt K mg) : FnOk P w K mg base CX0 3 (a_Register_redo K) (fdOf K (a_Register_redo K)) ["self"] (sp_redo K) := by
  refine (f_Register_redo T).ok sc_Register_redo (fun vs H Q E h => ?_) (fun cdv A outer s0 H vs Q E hr h => ?_)
  · obtain ⟨B, d, ddx, s, sdx, st, rfl, _⟩ := h
    rfl
  · obtain ⟨B, d, ddx, s, sdx, st, rfl, hD, hl1, hl2, sm, k0, k1⟩ := h
    refine ⟨_, (pss_cons (ps_if (pt_cmpR (op_eqT0 (hu_of hr)) (SlX.pe_sl (pe_fld (pv 0) rfl)) (pe_tup pa_nil) (nomark _)) (pss_one (ps_ret pe_bl)) pss_nil) (pss_cons (ps_expr (SlX.pe_methSl0 (pe_fld (pv 0) rfl) (cl_State T) (m_State_go_again T) ((ok_State_go_again T).raw (b_State_go_again T) .nil) (hr.mono (by decide)) pass0)) (pss_one (ps_ret pe_bl)))), ?_⟩
    obtain ⟨nv, qv, ev, uv, vv, a0, a1, ⟨p1, w1, rfl, hp1, hP1⟩, a3, ⟨p3, w3, rfl, hp3, hP3⟩, a5⟩ := hD.st.ex
    have sl : SlX.Slt H s (c_State K) sdx [some nv, some (.ref p1), some ev, some (.ref p3), some vv] := .inr ⟨a0, hD.st.dx⟩
    have hwl : w3.length = st.undone.length := by have := hP3.length; rw [List.length_map] at this; exact this.symm
    refine ⟨_, rfl, d, _, ddx, _, _, rfl, hD.hd, cl_Register T, na_Register_state T, rfl, s, _, sdx, _, _, 3, _, rfl, sl, cl_State T, sl_undone T, rfl, line_le (show 0 ≤ 1000000 by decide), fun q hq => ?_⟩
    have g1 : Gr M0 B H B (upd H q (.tup [])) := Gr.hid sm hq
    refine ⟨p3, q, w3, rfl, rfl, sqT_same g1.sub hp3, .inl (.inl upd_same), w3.isEmpty, rfl, ?_⟩
    have hD1 := hD.go0 g1
    by_cases c : st.undone = []
    · have hw : w3 = [] := List.length_eq_zero_iff.mp (by rw [hwl, c]; rfl)
      rw [hw]
      exact iteT (k0 c _ _ _ g1 rfl)
    · have hw : w3.isEmpty = false := by
        cases hq2 : w3 with
        | nil =>
          rw [hq2] at hwl
          exact absurd (List.length_eq_zero_iff.mp hwl.symm) c
        | cons x xs => rfl
      rw [hw]
      obtain ⟨ks, kp, hk⟩ : ∃ ks kp, st.undone = ks ++ [kp] := ⟨st.undone.dropLast, st.undone.getLast c, (List.dropLast_concat_getLast c).symm⟩
      refine iteF ⟨_, rfl, d, _, ddx, _, _, rfl, hD1.hd, cl_Register T, na_Register_state T, rfl, s, sdx, _, rfl, .inr ⟨g1.same _ _ a0, hD1.st.dx⟩, B, s, sdx, ks, kp, st, rfl, hD1.st, hk, hl2, hl1, g1.sub, fun B' H' g hs => ?_⟩
      have gT : Gr (SM s sdx) B H B' H' := Gr.trans hD.st.mok g1.up g
      exact k1 ks kp hk B' H' gT (hD1.goS g hs)
abbrev RT : Rp := fun _ _ => True
theorem mono_rt : Mono RT := fun _ _ _ _ h => h
def sp_copied (K : PySem.W.Frag) : Sp := fun vs H Q _ => ∃ (B : Hp) (o : V), vs = [o] ∧ rOp K o B ∧ Same B H ∧ Ret B H RT Q
theorem ok_copied (T : Txt K mg) : FnOk P w K mg base CX0 1 (a_copied K) (fdOf K (a_copied K)) ["operation"] (sp_copied K) := by
  refine (f_copied T).ok sc_copied (fun vs H Q E h => ?_) (fun cdv A outer s0 H vs Q E hr h => ?_)
  · obtain ⟨B, o, rfl, _⟩ := h
    rfl
  · obtain ⟨B, o, rfl, ⟨t, xs, rfl, ht, hx⟩, sm, k⟩ := h
    refine ⟨_, (pss_cons (ps_if (pt_cmpR op_ne (pe_ix ix_seq (pv 0) pe_int (fun _ _ => rfl)) pe_str (nomark _)) (pss_one (ps_ret (pv 0))) pss_nil) (pss_one (ps_ret (pe_tup (pa_cons pe_str (pa_cons (pe_callTy call_dictD (by rfl) (n_dict T) (by decide +kernel) (pa_cons (pe_ix ix_seq (pv 0) pe_int (fun _ _ => rfl)) pa_nil)) (pa_cons (pe_ix ix_seq (pv 0) pe_int (fun _ _ => rfl)) pa_nil))))))), ?_⟩
    have ht' := sqT_same sm ht
    rcases hx with ⟨e, kvs, u, rfl, he⟩ | ⟨z, y, hz, rfl⟩
    · refine ⟨_, rfl, .inr (.inl ⟨t, _, 0, _, rfl, rfl, ht', rfl, rfl, false, ?_, iteF ?_⟩)⟩
      · show V.bl (!decide (V.str "promise" = V.str "promise")) = _
        rw [decide_eq_true rfl]
        rfl
      · refine ⟨_, rfl, .inr (.inl ⟨t, _, 1, _, rfl, rfl, ht', rfl, e, kvs, rfl, .inl (sm _ _ he), fun q hq => ?_⟩)⟩
        have g1 : Gr M0 B H B (upd H q (.dK kvs)) := Gr.hid sm hq
        refine ⟨_, rfl, .inr (.inl ⟨t, _, 2, _, rfl, rfl, sqT_same g1.sub ht, rfl, line_le (show 3 ≤ 1000000 by decide), fun n hn => ?_⟩)⟩
        exact k _ _ _ (g1.then0 (Gr.hid g1.sub hn)) trivial
    · refine ⟨_, rfl, .inr (.inl ⟨t, _, 0, _, rfl, rfl, ht', rfl, rfl, true, ?_, iteT ⟨_, rfl, k _ _ _ (Gr.refl sm) trivial⟩⟩)⟩
      show V.bl (!decide (V.str z = V.str "promise")) = _
      rw [decide_eq_false (fun e => hz (by injection e))]
      rfl
def sp_history (K : PySem.W.Frag) : Sp := fun vs H Q _ => ∃ (B : Hp) (d ddx s sdx : Addr) (st : Stt), vs = [.ref d] ∧ Dk K B H d ddx s sdx st ∧ st.past.length ≤ 1000 ∧ Same B H ∧ Ret B H (RLst (st.past.map fun _ => RT)) Q
theorem ok_Register_history (T : Txt K mg) : FnOk P w K mg base CX0 2 (a_Register_history K) (fdOf K (a_Register_history K)) ["self"] (sp_history K) := by
  refine (f_Register_history T).ok sc_Register_history (fun vs H Q E h => ?_) (fun cdv A outer s0 H vs Q E hr h => ?_)
  · obtain ⟨B, d, ddx, s, sdx, st, rfl, _⟩ := h
    rfl
  · obtain ⟨B, d, ddx, s, sdx, st, rfl, hD, hl, sm, k⟩ := h
    refine ⟨_, (pss_one (ps_ret (pe_lc (own := [("operation", 1), ("ahead", 2)]) (by rfl) sc_Register_history.nd (pi_tup (SlX.pe_sl (pe_fld (pv 0) rfl))) (blkOk_by (own := [("operation", 1), ("ahead", 2)]) (N := N_Register_history) (sc := defScope s_Register_history) (by decide +kernel)) (fun _ _ _ _ _ => (pg_tupB K 2 rfl (pgs_cons (pg_name (i := 1) sc_Register_history.nd rfl (Or.inl rfl)) (pgs_cons (pg_name (i := 2) sc_Register_history.nd rfl (Or.inl rfl)) pgs_nil)))) (fun _ _ _ _ _ => pts_nil) (fun _ _ _ _ _ => (pe_call (ok_copied T) (hr.mono (by decide)) (by rfl) (g_copied T) (f_copied T).kp (b_copied T) .nil pass0 (pa_cons (pv 1) pa_nil)))))), ?_⟩
    obtain ⟨nv, qv, ev, uv, vv, a0, a1, ⟨p, ws, rfl, hp, hP⟩, a3, a4, a5⟩ := hD.st.ex
    refine ⟨_, rfl, d, _, ddx, _, _, rfl, hD.hd, cl_Register T, na_Register_state T, rfl, s, _, sdx, _, _, 1, _, rfl, .inr ⟨a0, hD.st.dx⟩, cl_State T, sl_past T, rfl, p, rfl, ⟨ws, sqT_same sm hp⟩, fun D hDn => ?_⟩
    refine lc_dat (walk_tup (xs := ws)) (M := M0) (B1 := B) st.past (fun _ => true) (rEntry K) (fun _ => RT) mono_entry (fun _ => mono_rt) hP rfl sm hDn mok0 (by omega) (fun B2 H2 g => sqT_B g hp) (fun r x B2 H2 hr2 hx g Ky Kn ky kn => ?_) (fun zs B2 H2 g hz hP2 => ?_)
    · obtain ⟨t, o, kt, rfl, ht, ho, hk⟩ := hx
      refine ⟨t, _, rfl, sqT_same g.sub ht, rfl, _, _, rfl, _, _, rfl, rfl, rfl, ?_⟩
      exact ⟨_, rfl, B2, o, rfl, ho, g.sub, fun v B3 H3 g3 hv => ky rfl _ _ _ g3 trivial⟩
    · rw [filter_all] at hP2
      exact k _ _ _ g ⟨D, zs, rfl, hz, hP2⟩
def sp_stored (K : PySem.W.Frag) : Sp := fun vs H Q _ => ∃ (B : Hp) (d ddx s sdx : Addr) (st : Stt), vs = [.ref d] ∧ Dk K B H d ddx s sdx st ∧ st.now.noted.length ≤ 1 ∧ Same B H ∧ Ret B H (fun v B => ∃ p, v = .ref p ∧ B p = some (.lst (st.now.noted.map V.str))) Q
theorem ok_Register_stored (T : Txt K mg) : FnOk P w K mg base CX0 1 (a_Register_stored K) (fdOf K (a_Register_stored K)) ["self"] (sp_stored K) := by
  refine (f_Register_stored T).ok sc_Register_stored (fun vs H Q E h => ?_) (fun cdv A outer s0 H vs Q E hr h => ?_)
  · obtain ⟨B, d, ddx, s, sdx, st, rfl, _⟩ := h
    rfl
  · obtain ⟨B, d, ddx, s, sdx, st, rfl, hD, hl, sm, k⟩ := h
    refine ⟨_, (pss_one (ps_ret (pe_callB (call_sortedD rfl) (by rfl) (n_sorted T) (by decide +kernel) (pa_cons (SlX.pe_sl (pe_fld (pv 0) rfl)) pa_nil)))), ?_⟩
    obtain ⟨nv, qv, ev, uv, vv, a0, ⟨e, kvs, rfl, he, hks⟩, a2, a3, a4, a5⟩ := hD.st.ex
    refine ⟨_, rfl, d, _, ddx, _, _, rfl, hD.hd, cl_Register T, na_Register_state T, rfl, s, _, sdx, _, _, 0, _, rfl, .inr ⟨a0, hD.st.dx⟩, cl_State T, sl_noted T, rfl, e, kvs, st.now.noted, rfl, .inl (sm _ _ he), hks, by omega, fun ys p hy _ hp => ?_⟩
    have hys : ys = st.now.noted := by
      generalize st.now.noted = ns at hy hl
      match ns, hl with
      | [], _ => exact hy.eq_nil
      | [x], _ => exact hy.eq_singleton
      | _ :: _ :: _, h => simp at h
    rw [hys]
    exact k _ _ _ (Gr.lay sm hp) ⟨p, rfl, upd_same⟩
def sp_need_entries (K : PySem.W.Frag) : Sp := fun vs H Q _ => ∃ (B : Hp) (d ddx s sdx : Addr) (st : Stt) (i : Nat), vs = [.ref d, .int i, .int 1] ∧ Dk K B H d ddx s sdx st ∧ i < st.now.es.length ∧ st.now.es.length ≤ 1000 ∧ Same B H ∧ Q .non H
theorem ok_Register_need_entries (T : Txt K mg) : FnOk P w K mg base CX0 3 (a_Register_need_entries K) (fdOf K (a_Register_need_entries K)) ["self", "index", "count"] (sp_need_entries K) := by
  refine (f_Register_need_entries T).ok sc_Register_need_entries (fun vs H Q E h => ?_) (fun cdv A outer s0 H vs Q E hr h => ?_)
  · obtain ⟨B, d, ddx, s, sdx, st, i, rfl, _⟩ := h
    rfl
  · obtain ⟨B, d, ddx, s, sdx, st, i, rfl, hD, hi, hl, sm, k⟩ := h
    refine ⟨_, (pss_one (ps_if (pt_not (pt_val (pe_call (ok_is_number T) (hr.mono (by decide)) (by rfl) (g_is_number T) (f_is_number T).kp (b_is_number T) .nil pass0 (pa_cons (pv 1) (pa_cons pe_int (pa_cons (pe_op op_sub (pe_callB (cr_lenO (fi_Stack_len T) (fn_Stack_len T) ((ok_Stack_len T).raw (b_Stack_len T) .nil) (hr.mono (by decide)) pass0) (by rfl) (n_len T) (by decide +kernel) (pa_cons (SlX.pe_sl (pe_fld (pv 0) rfl)) pa_nil)) (pv 2)) pa_nil)))))) (pss_one ps_never) pss_nil)), ?_⟩
    obtain ⟨nv, qv, ev, uv, vv, a0, a1, a2, a3, a4, a5⟩ := hD.st.ex
    have h3 := mono_stack _ _ _ _ sm a3
    obtain ⟨a, dx, p, st', n, xs, ws, rfl, h1, _⟩ := id h3
    refine ⟨_, rfl, _, rfl, d, _, ddx, _, _, rfl, hD.hd, cl_Register T, na_Register_state T, rfl, s, _, sdx, _, _, 2, _, rfl, .inr ⟨a0, hD.st.dx⟩, cl_State T, sl_present T, rfl, a, dx, _, rfl, h1, _, st.now.es, rfl, h3, st.now.es.length, rfl, by omega, _, rfl, _, _, rfl, rfl, _, _, _, rfl, _, rfl, ?_⟩
    rw [show (decide ((0 : Int) ≤ (i : Int)) && decide ((i : Int) ≤ (st.now.es.length : Int) - 1)) = true by simp; omega]
    exact k
end
end Lg
/-! D17 -/
set_option maxHeartbeats 4000000
namespace Lg
open PySem L2
section
variable {P : Program} {w : World} {K : PySem.W.Frag} {mg : Str → Option Value} {base : Heap}
theorem ox_PB (T : Txt K mg) : OexC K (c_PromiseBroken K) := ⟨oc_PromiseBroken T, os_PromiseBroken T, oe_PromiseBroken T, ot_PromiseBroken T, kk_PromiseBroken T⟩
def sp_PromiseBroken_init (K : PySem.W.Frag) : Sp := fun vs H Q _ => ∃ (a : Addr) (v : V), vs = [.ref a, v] ∧ H a = some (exo a (c_PromiseBroken K) none) ∧ ∀ d, H d = none → d ≠ a → Q .non (upd (upd H d (exd d [("index", v)])) a (exo a (c_PromiseBroken K) (some d)))
theorem ok_PromiseBroken_init (T : Txt K mg) : FnOk P w K mg base CX0 1 (a_PromiseBroken_init K) (fdOf K (a_PromiseBroken_init K)) ["self", "index"] (sp_PromiseBroken_init K) := by
  refine (f_PromiseBroken_init T).ok sc_PromiseBroken_init (fun vs H Q E h => ?_) (fun cdv A outer s0 H vs Q E hr h => ?_)
  · obtain ⟨a, v, rfl, _⟩ := h
    rfl
  · obtain ⟨a, v, rfl, ha, k⟩ := h
    refine ⟨_, (pss_cons (ps_expr (pe_seinit rfl (g_StackError T) (sg_StackError T) (sr_StackError T) (sv_StackError T) (pa_cons (pv 0) (pa_cons pe_str pa_nil)))) (pss_one (ps_ost (pv 0) (pv 1)))), ?_⟩
    exact ⟨_, rfl, a, c_PromiseBroken K, _, rfl, show (1 : Nat) ≤ 1000 by decide, ox_PB T, ha, _, rfl, _, rfl, a, c_PromiseBroken K, rfl, ox_PB T, on_PromiseBroken T, .inl ⟨ha, k⟩⟩
end
end Lg
/-! D18 -/
set_option maxHeartbeats 4000000
namespace Lg
open PySem L2
section
variable {P : Program} {w : World} {K : PySem.W.Frag} {mg : Str → Option Value} {base : Heap}
theorem del_upd3 {H : Hp} {a d : Addr} {o1 o2 o3 o4 : HO} (ha : H a = none) (hne : d ≠ a) : upd (del (upd (upd (upd H a o1) d o2) a o3) a) d o4 = upd H d o4 := by
  funext b
  by_cases h1 : b = d
  · rw [h1, upd_same, upd_same]
  · rw [upd_ne h1, upd_ne h1]
    by_cases h2 : b = a
    · rw [h2, ha]
      exact if_pos rfl
    · show (if b = a then none else _) = _
      rw [if_neg h2, upd_ne h2, upd_ne h1, upd_ne h2]
structure KOk (k : Kept) : Prop where
  es : OkS k.es
  ml : (modsOf k.es).length ≤ 5
  vl : k.vows.length ≤ 1000
  vk : ∀ v ∈ k.vows, v.1.length ≤ 1000 ∧ (v.1.map (·.1)).Nodup
theorem rows_len {es : List En} (h : (modsOf es).length ≤ 5) : (rowsOf es).length ≤ 1024 := by
  unfold rowsOf
  rw [List.length_map]
  have e := allAns_len (modsOf es) _ (Nat.le_refl _)
  rw [List.take_length] at e
  rw [e]
  exact Nat.le_trans (Nat.pow_le_pow_right (by decide) h) (by decide)
theorem here_sub {es : List En} {kn : Ans} : ∀ r ∈ rowsOf es, Sub (here (modsOf es) kn) r.1 := by
  intro r hr p hp
  unfold rowsOf at hr
  obtain ⟨a, ha, rfl⟩ := List.mem_map.mp hr
  rw [(allAns_full ha).1]
  have := (List.mem_filter.mp hp).2
  exact List.contains_iff_mem.mp this
def sp_Register_enter (K : PySem.W.Frag) : Sp := fun vs H Q E => ∃ (B : Hp) (d ddx s sdx : Addr) (st : Stt) (o pw vv nv : V) (k : Kept), vs = [.ref d, o, pw, vv, nv] ∧ Dk K B H d ddx s sdx st ∧ rOp K o B ∧ rStack K k.es pw B ∧ rVows K k.vows vv B ∧ rNoted k.noted nv B ∧ KOk k ∧ st.past.length ≤ 1000 ∧ Same B H ∧
  (broken k.es k.vows = none → ∀ B' H', Gr (SM s sdx) B H B' H' → Dk K B' H' d ddx s sdx ⟨k, st.past ++ [st.now], []⟩ → Q .non H') ∧
  (∀ i : Nat, broken k.es k.vows = some i → ∀ dx B' H', Gr M0 B H B' H' → B' dx = some (.xd [("index", .int i)]) → E (.ref (c_PromiseBroken K)) (some dx) H')
theorem ok_Register_enter (T : Txt K mg) : FnOk P w K mg base (L2.CX P w) 9 (a_Register_enter K) (fdOf K (a_Register_enter K)) ["self", "operation", "present", "vows", "noted"] (sp_Register_enter K) := by
  refine (f_Register_enter T).okX sc_Register_enter (fun vs H Q E h => ?_) (fun cdv A outer s0 H vs Q E hr h => ?_)
  · obtain ⟨B, d, ddx, s, sdx, st, o, pw, vv, nv, k, rfl, _⟩ := h
    rfl
  · obtain ⟨B, d, ddx, s, sdx, st, o, pw, vv, nv, k, rfl, hD, ho, hp, hv, hn, ok, hl, sm, k0, k1⟩ := h
    refine ⟨_, (pss_cons (ps_set (i := 5) sc_Register_enter.nd rfl (Or.inl rfl) (pe_call (ok_outcomes T) (hr.mono (by decide)) (by rfl) (g_outcomes T) (f_outcomes T).kp (b_outcomes T) .nil pass0 (pa_cons (pv 2) pa_nil))) (pss_cons (ps_for (passes_of rfl) rfl (pi_enumT (by rfl) (n_enumerate T) (pa_cons (pv 3) pa_nil)) (pg_tup rfl (pgs_cons (pg_name (i := 6) sc_Register_enter.nd rfl (Or.inl rfl)) (pgs_cons (pg_tup rfl (pgs_cons (pg_name (i := 8) sc_Register_enter.nd rfl (Or.inl rfl)) (pgs_cons (pg_name (i := 9) sc_Register_enter.nd rfl (Or.inl rfl)) pgs_nil))) pgs_nil))) (pss_cons (ps_lock (ps_setDc (i := 7) (own := [("name", 10), ("result", 11)]) (by rfl) sc_Register_enter.nd rfl rfl (sw_trueD rfl rfl rfl (by decide +kernel)) (pi_items (pv 8)) (blkOk_by (own := [("name", 10), ("result", 11)]) (N := N_Register_enter) (sc := defScope s_Register_enter) (by decide +kernel)) (fun _ _ _ _ _ => (pg_tupB K 2 rfl (pgs_cons (pg_name (i := 10) sc_Register_enter.nd rfl (Or.inl rfl)) (pgs_cons (pg_name (i := 11) sc_Register_enter.nd rfl (Or.inl rfl)) pgs_nil)))) (fun _ _ _ _ _ => (pts_one (pt_cmpR (opB (r := fun K => rIn K false) K op_in_seq) (pv 10) (pe_prop (pv 2) (cl_Stack T) (p_Stack_modules T) (ok_Stack_modules T) (hr.mono (by decide)) (b_Stack_modules T) .nil pass0 (by rfl)) (by rfl)))) (fun _ _ _ _ _ => (pv 10)) (fun _ _ _ _ _ => (pv 11)))) (pss_one (ps_if (pt_cmpR op_ne (pe_call (ok_where_all T) (hr.mono (by decide)) (by rfl) (g_where_all T) (f_where_all T).kp (b_where_all T) .nil pass0 (pa_cons (pv 5) (pa_cons (pv 7) pa_nil))) (pv 9) (nomark _)) (pss_one (ps_raise rfl (takes_of rfl rfl rfl rfl) (pmk_oex (ox_PB T) (oi_PromiseBroken T) (oy_PromiseBroken T) (ok_PromiseBroken_init T) (hr.mono (by decide)) (b_PromiseBroken_init T) .nil pass0 rfl (g_PromiseBroken T) (pa_cons (pv 6) pa_nil)))) pss_nil)))) (pss_one (ps_expr (SlX.pe_methSl (pe_fld (pv 0) rfl) (cl_State T) (m_State_go_on T) ((ok_State_go_on T).raw (b_State_go_on T) .nil) (hr.mono (by decide)) pass0 (pa_cons (pv 1) (pa_cons (pe_tup (pa_cons (pv 2) (pa_cons (pv 3) (pa_cons (pv 4) pa_nil)))) pa_nil))))))), ?_⟩
    obtain ⟨p, ws, rfl, hpw, hP⟩ := id hv
    have hwl : ws.length = k.vows.length := by have := hP.length; rw [List.length_map] at this; exact this.symm
    refine ⟨_, rfl, B, pw, k.es, rfl, hp, ok.es, sm, fun rv B1 H1 g1 hrv => ?_⟩
    obtain ⟨pa, pdx, pp, pst, pn, pxs, pws, rfl, hpI, _⟩ := id hp
    have sg1 := g1.base
    refine ⟨_, rfl, p, ws, rfl, sqT_B g1 hpw, ?_⟩
    refine for_it (walk_enumT (xs := ws)) (fun i σ H' => ∃ B' x6 x7 x8 x9, Gr M0 B H B' H' ∧ RLst ((rowsOf k.es).map (rRow K)) rv B' ∧ brokenAt k.es (k.vows.drop i) i = broken k.es k.vows ∧ σ = [some (.ref d), some o, some (.ref pa), some (.ref p), some nv, some rv, x6, x7, x8, x9, none, none]) ⟨B1, none, none, none, none, g1, hrv, rfl, rfl⟩ (fun i σ H' hi pv => ?_) (fun i x σ H' H2 hi pv y => ?_) (fun σ H' pv => ?_)
    · obtain ⟨B', x6, x7, x8, x9, g, h1, h2, rfl⟩ := pv
      exact sqT_B g hpw
    · obtain ⟨B', x6, x7, x8, x9, g, h1, h2, rfl⟩ := pv
      obtain ⟨Tq, y1, y2, rfl, hTq, rfl, e1, e2⟩ := y
      have hi' : i < k.vows.length := by omega
      obtain ⟨R, hR, hy2⟩ := PairR.at_ hP e2
      obtain ⟨v, hv1, rfl⟩ : ∃ v, k.vows[i]? = some v ∧ R = rRow K v := by
        rw [List.getElem?_map] at hR
        cases q : k.vows[i]? with
        | none => rw [q] at hR; cases hR
        | some v => rw [q] at hR; exact ⟨v, rfl, (Option.some.inj hR).symm⟩
      obtain ⟨t, e, rfl, ht, he⟩ := hy2
      cases e1
      have g2 := g.then0 (Gr.hid (o := .tup [.int (i : Nat), .ref t]) g.sub hTq)
      refine ⟨Tq, _, rfl, .inl (.inl upd_same), rfl, _, _, rfl, _, _, rfl, t, _, rfl, sqT_B g2 ht, rfl, _, _, rfl, _, _, rfl, rfl, rfl, ?_⟩
      have he2 : upd H' Tq (.tup [.int (i : Nat), .ref t]) e = some (.dK (ansV v.1)) := g2.sub _ _ (g2.base _ _ he)
      refine ⟨e, _, he2, trivial, fun od => ?_⟩
      have sm2 := lock_same (d := e) (o := .frz od (.dK (ansV v.1))) g2.sub
      refine ⟨_, rfl, e, od, ansV v.1, rfl, upd_same, fun D hDn => ?_⟩
      have hDe : D ≠ e := by
        rintro rfl
        rw [upd_same] at hDn
        cases hDn
      have hnl : (ansV v.1).length = v.1.length := List.length_map ..
      refine dc_it (walk_items (d := e) (o := od) (kvs := ansV v.1)) (fun j H4 => ∃ B4, Gr M0 (off B' e) _ B4 H4 ∧ B4 D = none ∧ H4 D = some (.dK (ansV (here (modsOf k.es) (v.1.take j))))) ⟨_, (Gr.refl sm2).mut (sm2.free hDn) (.inl hDn), sm2.free hDn, upd_same⟩ (fun j H4 hj pv => ?_) (fun j x H4 H5 hj pv y => ?_) (fun H4 pv => ?_)
      · obtain ⟨B4, g4, hB4, hH4⟩ := pv
        exact g4.keep e _ (fun z => z) upd_same
      · obtain ⟨B4, g4, hB4, hH4⟩ := pv
        obtain ⟨Tp, a1, a2, rfl, hTp, rfl, f1, f2⟩ := y
        have hj' : j < v.1.length := by omega
        obtain ⟨q, hq⟩ : ∃ q, v.1[j]? = some q := ⟨v.1[j], List.getElem?_eq_getElem hj'⟩
        have eq1 : (ansV v.1)[j]? = some (Sum.inr q.1, V.str q.2) := by
          unfold ansV
          rw [List.getElem?_map, hq]
          rfl
        dsimp only at f1 f2
        rw [eq1] at f1 f2
        cases f1
        cases f2
        have g5 := g4.then0 (Gr.hid (o := .tup [V.str q.1, V.str q.2]) g4.sub hTp)
        have hp5 : rStack K k.es (.ref pa) B4 := mono_stack _ _ _ _ g4.base (off_stack _ _ _ _ _ (g.base _ _ he) (mono_stack _ _ _ _ g.base hp))
        refine ⟨Tp, _, rfl, .inl (.inl upd_same), rfl, _, _, rfl, _, _, rfl, rfl, rfl, ?_⟩
        obtain ⟨qa, qdx, qp, qst, qn, qxs, qws, eqa, hqI, _⟩ := id hp5
        cases eqa
        refine ⟨_, rfl, _, rfl, pa, _, _, rfl, g5.sub _ _ hqI, B4, .ref pa, k.es, rfl, hp5, g5.sub, fun mv B6 H6 g6 hmv => ?_⟩
        obtain ⟨mp, rfl, hmp⟩ := hmv
        refine ⟨mp, _, rfl, .inr (sqT_same g6.sub hmp), rfl, ?_, _, rfl, ?_⟩
        · rw [List.all_map]
          exact List.all_eq_true.mpr fun _ _ => rfl
        · have hDT : D ≠ Tp := by
            rintro rfl
            rw [hTp] at hH4
            cases hH4
          have hH5 : upd H4 Tp (.tup [V.str q.1, V.str q.2]) D = some (.dK (ansV (here (modsOf k.es) (v.1.take j)))) := by rw [upd_ne hDT]; exact hH4
          have hB6 : B6 D = none := g6.new D _ hB4 hH5
          have hH6 : H6 D = some (.dK (ansV (here (modsOf k.es) (v.1.take j)))) := g6.keep D _ (fun z => z) hH5
          have g7 := g5.then0 g6
          have hin : inV (.str q.1) ((modsOf k.es).map V.str) = (modsOf k.es).contains q.1 := by rw [inV_str]; exact (List.contains_eq_mem ..).symm
          have htk : v.1.take (j + 1) = v.1.take j ++ [q] := by rw [List.take_succ, hq]; rfl
          have hle : (here (modsOf k.es) (v.1.take j)).length ≤ 1000 := Nat.le_trans (List.length_filter_le ..) (Nat.le_trans (List.length_take_le ..) (by have := (ok.vk v (List.mem_of_getElem? hv1)).1; omega))
          show if inV (.str q.1) ((modsOf k.es).map V.str) = true then _ else _
          rw [hin]
          cases c : (modsOf k.es).contains q.1 with
          | true =>
            refine iteT ⟨_, rfl, _, rfl, _, Sum.inr q.1, rfl, hH6, ?_, B6, g7.mut hB6 (.inl hDn), hB6, ?_⟩
            · unfold ansV
              rw [List.length_map]
              exact line_lt (by omega)
            · rw [upd_same, htk]
              have nd : ((v.1.take (j + 1)).map (·.1)).Nodup := ((List.take_sublist _ _).map _).nodup (ok.vk v (List.mem_of_getElem? hv1)).2
              rw [htk, List.map_append] at nd
              have fr : ∀ r ∈ ansV (here (modsOf k.es) (v.1.take j)), r.1 ≠ Sum.inr q.1 := by
                intro r hr hrq
                unfold ansV at hr
                obtain ⟨r0, hr0, rfl⟩ := List.mem_map.mp hr
                have e0 : r0.1 = q.1 := by injection hrq
                exact (List.nodup_append.mp nd).2.2 r0.1 (List.mem_map_of_mem (List.mem_filter.mp hr0).1) q.1 (by simp) e0
              rw [putK_fresh fr]
              unfold here
              rw [List.filter_append, List.filter_cons_of_pos (by exact c), List.filter_nil]
              unfold ansV
              rw [List.map_append]
              rfl
          | false =>
            refine iteF ⟨B6, g7, hB6, ?_⟩
            rw [hH6, htk]
            unfold here
            rw [List.filter_append, List.filter_cons_of_neg (by rw [c]; decide), List.filter_nil, List.append_nil]
      · obtain ⟨B4, g4, hB4, hH4⟩ := pv
        obtain ⟨hf, gu⟩ := Gr.unlock g2.sub (g.base _ _ he) (fun z => z) g4
        refine ⟨hf, ?_⟩
        have hD0 : upd H' Tq (.tup [.int (i : Nat), .ref t]) D = none := by rw [← hDn, upd_ne hDe]
        have hH4' : upd H4 e (.dK (ansV v.1)) D = some (.dK (ansV (here (modsOf k.es) v.1))) := by rw [upd_ne hDe, hH4, hnl, List.take_length]
        have g7 := gu.tell hD0 hH4' (by rw [upd_ne hDe]; exact hB4)
        have g8 := g2.then0 g7
        dsimp only [tIfS]
        have hsub := here_sub (es := k.es) (kn := v.1)
        have hrl := rows_len ok.ml
        have hkl : (here (modsOf k.es) v.1).length ≤ 1000 := Nat.le_trans (List.length_filter_le ..) (ok.vk v (List.mem_of_getElem? hv1)).1
        refine ⟨_, rfl, _, rfl, _, rv, D, rowsOf k.es, here (modsOf k.es) v.1, rfl, mono_lst (mem_map_mono mono_row) _ _ _ g7.base h1, upd_same, hsub, hkl, by omega, ?_, g8.sub, fun wv B9 H9 g9 hwv => ?_⟩
        · rw [List.length_map]
          exact Nat.le_trans (List.length_filter_le ..) (by omega)
        cases hwv
        have hdr : k.vows.drop i = v :: k.vows.drop (i + 1) := by
          obtain ⟨hlt, e0⟩ := List.getElem?_eq_some_iff.mp hv1
          rw [← e0]
          exact List.drop_eq_getElem_cons hlt
        have h3 := h2
        rw [hdr] at h3
        unfold brokenAt at h3
        refine ⟨_, rfl, rfl, _, rfl, ?_⟩
        cases c : settle (rowsOf k.es) (here (modsOf k.es) v.1) != v.2 with
        | true =>
          rw [if_pos c] at h3
          have e3 : (!decide (V.str (settle (rowsOf k.es) (here (modsOf k.es) v.1)) = V.str v.2)) = true := by rw [sEq2]; exact c
          rw [e3]
          refine iteT ⟨_, rfl, show (1 : Nat) ≤ 1000 by decide, fun a ha => ⟨a, _, rfl, upd_same, fun dx hdx hne => ?_⟩⟩
          have hd9 : H9 dx = none := by rw [upd_ne hne] at hdx; exact hdx
          refine ⟨rfl, dx, _, upd_same, by rw [upd_ne hne]; exact upd_same, hd9, ?_⟩
          show E _ (some dx) _
          rw [del_upd3 ha hne]
          exact k1 i h3.symm dx _ _ ((g8.then0 g9).then0 (Gr.lay g9.sub hd9)) upd_same
        | false =>
          rw [if_neg (by rw [c]; decide)] at h3
          have e3 : (!decide (V.str (settle (rowsOf k.es) (here (modsOf k.es) v.1)) = V.str v.2)) = false := by rw [sEq2]; exact c
          rw [e3]
          exact iteF ⟨_, _, _, _, _, g8.then0 g9, mono_lst (mem_map_mono mono_row) _ _ _ (g7.then0 g9).base h1, h3, rfl⟩
    · obtain ⟨B', x6, x7, x8, x9, g, h1, h2, rfl⟩ := pv
      have hb : broken k.es k.vows = none := by
        rw [← h2, hwl, List.drop_length]
        rfl
      have hD1 := hD.go0 g
      obtain ⟨qn, qq, qe, qu, qv, a0, _⟩ := hD1.st.ex
      refine ⟨_, rfl, d, _, ddx, _, _, rfl, hD1.hd, cl_Register T, na_Register_state T, rfl, s, sdx, _, rfl, .inr ⟨a0, hD1.st.dx⟩, _, rfl, _, rfl, _, rfl, _, rfl, line_le (show 3 ≤ 1000000 by decide), fun t ht => ?_⟩
      have g2 := g.then0 (Gr.lay (o := .tup [.ref pa, .ref p, nv]) g.sub ht)
      have hD2 := hD.go0 g2
      refine ⟨_, s, sdx, o, .ref t, k, st, rfl, hD2.st, mono_op _ _ _ g2.base ho, ⟨t, .ref pa, .ref p, nv, rfl, .inl (.inl upd_same), mono_stack _ _ _ _ g2.base hp, mono_vows _ _ _ _ g2.base hv, mono_noted _ _ _ _ g2.base hn⟩, hl, g2.sub, fun B3 H3 g3 hs3 => ?_⟩
      have gT : Gr (SM s sdx) B H B3 H3 := Gr.trans hD.st.mok g2.up g3
      exact k0 hb _ _ gT (hD.goS gT hs3)
end
end Lg
/-! D19 -/
set_option maxHeartbeats 4000000
namespace Lg
open PySem L2
section
variable {P : Program} {w : World} {K : PySem.W.Frag} {mg : Str → Option Value} {base : Heap}
theorem both_len {es fs : List En} (h : (bothMods es fs).length ≤ 5) : (bothRows es fs).length ≤ 1024 := by
  unfold bothRows
  rw [List.length_map]
  have e := allAns_len (bothMods es fs) _ (Nat.le_refl _)
  rw [List.take_length] at e
  rw [e]
  exact Nat.le_trans (Nat.pow_le_pow_right (by decide) h) (by decide)
def sp_Register_edit (K : PySem.W.Frag) : Sp := fun vs H Q E => ∃ (B : Hp) (d ddx s sdx : Addr) (st : Stt) (o lv : V) (es : List En), vs = [.ref d, o, lv] ∧ Dk K B H d ddx s sdx st ∧ rOp K o B ∧ rStack K es lv B ∧ OkS st.now.es ∧ (bothMods st.now.es es).length ≤ 5 ∧ KOk ⟨es, st.now.vows, st.now.noted⟩ ∧ st.past.length ≤ 1000 ∧ Same B H ∧
  (broken es st.now.vows = none → ∀ (n : Nat) B' H', Gr (SM s sdx) B H B' H' → Dk K B' H' d ddx s sdx ⟨⟨es, st.now.vows, st.now.noted⟩, st.past ++ [st.now], []⟩ → Q (.int n) H') ∧
  (∀ i : Nat, broken es st.now.vows = some i → ∀ dx B' H', Gr M0 B H B' H' → B' dx = some (.xd [("index", .int i)]) → E (.ref (c_PromiseBroken K)) (some dx) H')
theorem ok_Register_edit (T : Txt K mg) : FnOk P w K mg base (L2.CX P w) 10 (a_Register_edit K) (fdOf K (a_Register_edit K)) ["self", "operation", "later"] (sp_Register_edit K) := by
  refine (f_Register_edit T).okX sc_Register_edit (fun vs H Q E h => ?_) (fun cdv A outer s0 H vs Q E hr h => ?_)
  · obtain ⟨B, d, ddx, s, sdx, st, o, lv, es, rfl, _⟩ := h
    rfl
  · obtain ⟨B, d, ddx, s, sdx, st, o, lv, es, rfl, hD, ho, hst, ok0, hbm, ok, hl, sm, k0, k1⟩ := h
    refine ⟨_, (pss_cons (ps_set (i := 3) sc_Register_edit.nd rfl (Or.inl rfl) (pe_call (ok_both_outcomes T) (hr.mono (by decide)) (by rfl) (g_both_outcomes T) (f_both_outcomes T).kp (b_both_outcomes T) .nil pass0 (pa_cons (SlX.pe_sl (pe_fld (pv 0) rfl)) (pa_cons (pv 2) pa_nil)))) (pss_cons (ps_expr (pe_meth (pv 0) (cl_Register T) (m_Register_enter T) (ok_Register_enter T) (hr.mono (by decide)) (b_Register_enter T) .nil (passes_call (takes_of rfl rfl rfl rfl) fun _ _ _ _ h => h) (pa_cons (pv 1) (pa_cons (pv 2) (pa_cons (SlX.pe_sl (pe_fld (pv 0) rfl)) (pa_cons (SlX.pe_sl (pe_fld (pv 0) rfl)) pa_nil)))))) (pss_one (ps_ret (pe_callB call_len_seq (by rfl) (n_len T) (by decide +kernel) (pa_cons (pe_lc (own := [("answers", 4), ("here", 5), ("there", 6)]) (by rfl) sc_Register_edit.nd (pi_list (pv 3)) (blkOk_by (own := [("answers", 4), ("here", 5), ("there", 6)]) (N := N_Register_edit) (sc := defScope s_Register_edit) (by decide +kernel)) (fun _ _ _ _ _ => (pg_tupB K 3 rfl (pgs_cons (pg_name (i := 4) sc_Register_edit.nd rfl (Or.inl rfl)) (pgs_cons (pg_name (i := 5) sc_Register_edit.nd rfl (Or.inl rfl)) (pgs_cons (pg_name (i := 6) sc_Register_edit.nd rfl (Or.inl rfl)) pgs_nil))))) (fun _ _ _ _ _ => (pts_one (pt_cmpR op_ne (pv 5) (pv 6) (nomark _)))) (fun _ _ _ _ _ => (pv 4))) pa_nil)))))), ?_⟩
    obtain ⟨nv, qv, ev, uv, vv, a0, a1, a2, a3, a4, a5⟩ := hD.st.ex
    refine ⟨_, rfl, d, _, ddx, _, _, rfl, hD.hd, cl_Register T, na_Register_state T, rfl, s, _, sdx, _, _, 2, _, rfl, .inr ⟨a0, hD.st.dx⟩, cl_State T, sl_present T, rfl, _, rfl, B, ev, lv, st.now.es, es, rfl, a3, hst, ok0, ok.es, by omega, sm, fun rv B1 H1 g1 hrv => ?_⟩
    have hD1 := hD.go0 g1
    obtain ⟨nv1, qv1, ev1, uv1, vv1, b0, b1, b2, b3, b4, b5⟩ := hD1.st.ex
    have sl1 : SlX.Slt H1 s (c_State K) sdx [some nv1, some qv1, some ev1, some uv1, some vv1] := .inr ⟨b0, hD1.st.dx⟩
    refine ⟨_, rfl, d, ddx, _, rfl, hD1.hd, rfl, _, rfl, _, rfl, _, rfl, d, _, ddx, _, _, rfl, hD1.hd, cl_Register T, na_Register_state T, rfl, s, _, sdx, _, _, 4, _, rfl, sl1, cl_State T, sl_vows T, rfl, _, rfl, d, _, ddx, _, _, rfl, hD1.hd, cl_Register T, na_Register_state T, rfl, s, _, sdx, _, _, 0, _, rfl, sl1, cl_State T, sl_noted T, rfl, ?_⟩
    refine ⟨B1, d, ddx, s, sdx, st, o, lv, vv1, nv1, ⟨es, st.now.vows, st.now.noted⟩, rfl, hD1, mono_op _ _ _ g1.base ho, mono_stack _ _ _ _ g1.base hst, b5, b1, ok, hl, g1.sub, fun hb B2 H2 g2 hD2 => ?_, fun i hb dx B2 H2 g2 hx => k1 i hb dx B2 H2 (g1.then0 g2) hx⟩
    obtain ⟨p, ys, rfl, hp, hP⟩ := hrv
    have gA : Gr (SM s sdx) B H B2 H2 := Gr.trans hD.st.mok g1.up g2
    refine ⟨_, rfl, p, rfl, ⟨ys, SqL.of (g2.sub _ _ (g2.base _ _ hp))⟩, fun D hDn => ?_⟩
    refine lc_dat (walk_list (K := K) (a := p) (xs := ys)) (M := M0) (B1 := B2) (bothRows st.now.es es) (fun x => x.2.1 != x.2.2) (rRow3 K) (fun _ => RT) mono_row3 (fun _ => mono_rt) (hP.mono g2.base (mem_map_mono mono_row3)) rfl g2.sub hDn mok0 (by have := both_len hbm; omega) (fun B3 H3 g => sqL_B g (g2.base _ _ hp)) (fun r x B3 H3 hr2 hx g Ky Kn ky kn => ?_) (fun zs B3 H3 g hz hP2 => ?_)
    · obtain ⟨t, dd, rfl, ht, he⟩ := hx
      refine ⟨t, _, rfl, sqT_same g.sub ht, rfl, _, _, rfl, _, _, rfl, _, _, rfl, rfl, rfl, _, rfl, _, rfl, rfl, _, rfl, ?_⟩
      have e3 : (!decide (V.str r.2.1 = V.str r.2.2)) = (r.2.1 != r.2.2) := by rw [sEq2]; rfl
      rw [e3]
      cases c : r.2.1 != r.2.2 with
      | true => exact iteT ⟨_, rfl, ky c _ _ _ (Gr.refl g.sub) trivial⟩
      | false => exact iteF (kn c _ _ (Gr.refl g.sub))
    · have gB : Gr (SM s sdx) B H B3 H3 := Gr.trans hD.st.mok gA g.up
      exact ⟨D, zs, rfl, .inl (SqL.of (g.sub _ _ hz)), k0 hb zs.length _ _ gB (hD2.go0 g)⟩
def sp_Register_take (K : PySem.W.Frag) : Sp := fun vs H Q E => ∃ (B : Hp) (d ddx s sdx : Addr) (st : Stt) (i : Nat) (es : List En), vs = [.ref d, .int i] ∧ es = st.now.es.take i ++ st.now.es.drop (i + 1) ∧ Dk K B H d ddx s sdx st ∧ i < st.now.es.length ∧ OkS st.now.es ∧ (bothMods st.now.es es).length ≤ 5 ∧ KOk ⟨es, st.now.vows, st.now.noted⟩ ∧ st.past.length ≤ 1000 ∧ Same B H ∧
  (broken es st.now.vows = none → ∀ (n : Nat) B' H', Gr (SM s sdx) B H B' H' → Dk K B' H' d ddx s sdx ⟨⟨es, st.now.vows, st.now.noted⟩, st.past ++ [st.now], []⟩ → Q (.int n) H') ∧
  (∀ i : Nat, broken es st.now.vows = some i → ∀ dx B' H', Gr M0 B H B' H' → B' dx = some (.xd [("index", .int i)]) → E (.ref (c_PromiseBroken K)) (some dx) H')
theorem ok_Register_take (T : Txt K mg) : FnOk P w K mg base (L2.CX P w) 11 (a_Register_take K) (fdOf K (a_Register_take K)) ["self", "index"] (sp_Register_take K) := by
  refine (f_Register_take T).okX sc_Register_take (fun vs H Q E h => ?_) (fun cdv A outer s0 H vs Q E hr h => ?_)
  · obtain ⟨B, d, ddx, s, sdx, st, i, es, rfl, _⟩ := h
    rfl
  · obtain ⟨B, d, ddx, s, sdx, st, i, es, rfl, hes, hD, hi, ok0, hbm, ok, hl, sm, k0, k1⟩ := h
    refine ⟨_, (pss_cons (ps_expr (pe_meth (pv 0) (cl_Register T) (m_Register_need_entries T) (ok_Register_need_entries T) (hr.mono (by decide)) (b_Register_need_entries T) .nil pass0 (pa_cons (pv 1) (pa_cons pe_int pa_nil)))) (pss_one (ps_ret (pe_meth (pv 0) (cl_Register T) (m_Register_edit T) (ok_Register_edit T) (hr.mono (by decide)) (b_Register_edit T) .nil (passes_call (takes_of rfl rfl rfl rfl) fun _ _ _ _ h => h) (pa_cons (pe_tup (pa_cons pe_str (pa_cons (pv 1) pa_nil))) (pa_cons (pe_meth (SlX.pe_sl (pe_fld (pv 0) rfl)) (cl_Stack T) (m_Stack_spliced T) (ok_Stack_spliced T) (hr.mono (by decide)) (b_Stack_spliced T) .nil pass0 (pa_cons (pv 1) (pa_cons pe_int (pa_cons (pe_tup pa_nil) pa_nil)))) pa_nil)))))), ?_⟩
    have h12 := ok0.len
    refine ⟨_, rfl, d, ddx, _, rfl, hD.hd, rfl, _, rfl, B, d, ddx, s, sdx, st, i, rfl, hD, hi, by omega, sm, ?_⟩
    refine ⟨_, rfl, d, ddx, _, rfl, hD.hd, rfl, _, rfl, line_le (show 2 ≤ 1000000 by decide), fun t ht => ?_⟩
    have g1 : Gr M0 B H _ _ := Gr.lay (o := .tup [.str "take", .int i]) sm ht
    have hD1 := hD.go0 g1
    obtain ⟨nv, qv, ev, uv, vv, a0, a1, a2, a3, a4, a5⟩ := hD1.st.ex
    obtain ⟨qa, qdx, qp, qst, qn, qxs, qws, rfl, hqI, _⟩ := id a3
    refine ⟨_, rfl, d, _, ddx, _, _, rfl, hD1.hd, cl_Register T, na_Register_state T, rfl, s, _, sdx, _, _, 2, _, rfl, .inr ⟨a0, hD1.st.dx⟩, cl_State T, sl_present T, rfl, qa, qdx, _, rfl, g1.sub _ _ hqI, rfl, _, rfl, line_le (show 0 ≤ 1000000 by decide), fun q hq => ?_⟩
    have g2 := g1.then0 (Gr.lay (o := .tup []) g1.sub hq)
    have gq : Gr M0 (upd B t (.tup [.str "take", .int i])) (upd H t (.tup [.str "take", .int i])) _ _ := Gr.lay (o := .tup []) g1.sub hq
    refine ⟨_, .ref qa, i, q, st.now.es, rfl, mono_stack _ _ _ _ gq.base a3, .inl (.inl upd_same), hi, ok0, hes ▸ ok.es, g2.sub, fun lv B3 H3 g3 hlv => ?_⟩
    have g4 := g2.then0 g3
    refine ⟨B3, d, ddx, s, sdx, st, .ref t, lv, es, rfl, hD.go0 g4, ?_, hes ▸ hlv, ok0, hbm, ok, hl, g4.sub, fun hb n B5 H5 g5 hD5 => ?_, fun i hb dx B5 H5 g5 hx => k1 i hb dx B5 H5 (g4.then0 g5) hx⟩
    · exact ⟨t, _, rfl, sqT_same (gq.base.trans g3.base) (.inl (.inl upd_same)), .inr ⟨"take", .int i, by decide, rfl⟩⟩
    · exact k0 hb n B5 H5 (Gr.trans hD.st.mok g4.up g5) hD5
theorem Gr.untell {B H B3 H3 : Hp} {e : Addr} {o : HO} (hb : B e = none) (he : H e = some o) (g : Gr M0 (upd B e o) H B3 H3) : Gr M0 B H (off B3 e) H3 := by
  have k : ∀ a u, B a = some u → a ≠ e := fun a u h z => by rw [z, hb] at h; cases h
  refine ⟨fun a u h => ?_, fun a u h => ?_, g.keep, g.there, fun a u h1 h2 => ?_⟩
  · rw [off_ne (k a u h)]
    exact g.base a u (by rw [upd_ne (k a u h)]; exact h)
  · by_cases q : a = e
    · rw [q, off_same] at h; cases h
    · rw [off_ne q] at h; exact g.sub a u h
  · by_cases q : a = e
    · rw [q]; exact off_same
    · rw [off_ne q]; exact g.new a u (by rw [upd_ne q]; exact h1) h2
def sp_Register_promise (K : PySem.W.Frag) : Sp := fun vs H Q _ => ∃ (B : Hp) (d ddx s sdx : Addr) (st : Stt) (e : Addr) (kn : Ans) (x : Str), vs = [.ref d, .ref e, .str x] ∧ Dk K B H d ddx s sdx st ∧ H e = some (.dK (ansV kn)) ∧ B e = none ∧ (∀ p ∈ kn, p.1 ∈ modsOf st.now.es ∧ p.2 ∈ results) ∧ (x = "in" ∨ x = "out") ∧
  KOk ⟨st.now.es, st.now.vows ++ [(kn, x)], st.now.noted⟩ ∧ broken st.now.es (st.now.vows ++ [(kn, x)]) = none ∧ st.past.length ≤ 1000 ∧ Same B H ∧
  ∀ B' H', Gr (SM s sdx) B H B' H' → Dk K B' H' d ddx s sdx ⟨⟨st.now.es, st.now.vows ++ [(kn, x)], st.now.noted⟩, st.past ++ [st.now], []⟩ → Q (.int ((st.now.vows.length + 1 : Nat) : Int)) H'
theorem ok_Register_promise (T : Txt K mg) : FnOk P w K mg base CX0 10 (a_Register_promise K) (fdOf K (a_Register_promise K)) ["self", "known", "word"] (sp_Register_promise K) := by
  refine (f_Register_promise T).ok sc_Register_promise (fun vs H Q E h => ?_) (fun cdv A outer s0 H vs Q E hr h => ?_)
  · obtain ⟨B, d, ddx, s, sdx, st, e, kn, x, rfl, _⟩ := h
    rfl
  · obtain ⟨B, d, ddx, s, sdx, st, e, kn, x, rfl, hD, he, hbe, hkn, hx, ok, hbr, hl, sm, k⟩ := h
    refine ⟨_, (pss_cons (ps_set (i := 3) sc_Register_promise.nd rfl (Or.inl rfl) (SlX.pe_sl (pe_fld (pv 0) rfl))) (pss_cons (ps_expr (pe_call (ok_need_answers T) (hr.mono (by decide)) (by rfl) (g_need_answers T) (f_need_answers T).kp (b_need_answers T) .nil pass0 (pa_cons (pe_prop (pv 3) (cl_Stack T) (p_Stack_modules T) (ok_Stack_modules T) (hr.mono (by decide)) (b_Stack_modules T) .nil pass0 (by rfl)) (pa_cons (pv 1) (pa_cons pe_bl pa_nil))))) (pss_cons (ps_expr (pe_call (ok_need_word T) (hr.mono (by decide)) (by rfl) (g_need_word T) (f_need_word T).kp (b_need_word T) .nil pass0 (pa_cons (pv 2) pa_nil))) (pss_cons (ps_set (i := 4) sc_Register_promise.nd rfl (Or.inl rfl) (pe_tup (StX.pa_star (SlX.pe_sl (pe_fld (pv 0) rfl)) (pa_cons (pe_tup (pa_cons (pe_callTy call_dictD (by rfl) (n_dict T) (by decide +kernel) (pa_cons (pv 1) pa_nil)) (pa_cons (pv 2) pa_nil))) pa_nil)))) (pss_cons (ps_expr (pe_meth (pv 0) (cl_Register T) (m_Register_enter T) (ok_Register_enter T) (hr.mono (by decide)) (b_Register_enter T) .nil passL (pa_cons (pe_tup (pa_cons pe_str (pa_cons (pe_callTy call_dictD (by rfl) (n_dict T) (by decide +kernel) (pa_cons (pv 1) pa_nil)) (pa_cons (pv 2) pa_nil)))) (pa_cons (pv 3) (pa_cons (pv 4) (pa_cons (SlX.pe_sl (pe_fld (pv 0) rfl)) pa_nil)))))) (pss_one (ps_ret (pe_callB call_len_seq (by rfl) (n_len T) (by decide +kernel) (pa_cons (pv 4) pa_nil))))))))), ?_⟩
    obtain ⟨nv, qv, ev, uv, vv, a0, a1, a2, a3, a4, a5⟩ := hD.st.ex
    obtain ⟨pa, pdx, pp, pst, pn, pxs, pws, rfl, hpI, _⟩ := id a3
    refine ⟨_, rfl, d, _, ddx, _, _, rfl, hD.hd, cl_Register T, na_Register_state T, rfl, s, _, sdx, _, _, 2, _, rfl, .inr ⟨a0, hD.st.dx⟩, cl_State T, sl_present T, rfl, ?_⟩
    refine ⟨_, rfl, pa, _, _, rfl, sm _ _ hpI, B, .ref pa, st.now.es, rfl, a3, sm, fun mv B1 H1 g1 hmv => ?_⟩
    obtain ⟨mp, rfl, hmp⟩ := hmv
    have hb1 : B1 e = none := g1.new e _ hbe he
    have he1 : H1 e = some (.dK (ansV kn)) := g1.same _ _ he
    have sB : Same B1 (upd B1 e (.dK (ansV kn))) := fun a u z => by rw [upd_ne (ne_of_none z hb1)]; exact z
    have smE : Same (upd B1 e (.dK (ansV kn))) H1 := fun a u z => by
      by_cases q : a = e
      · rw [q, upd_same] at z; cases z; rw [q]; exact he1
      · rw [upd_ne q] at z; exact g1.sub _ _ z
    have hlen : kn.length ≤ 1000 := (ok.vk (kn, x) (List.mem_append_right _ (by simp))).1
    refine ⟨_, rfl, _, mp, e, modsOf st.now.es, kn, rfl, sqT_same sB hmp, upd_same, hkn, by have := ok.ml; dsimp only at this; omega, hlen, smE, fun v B2 H2 g2 hv => ?_⟩
    cases hv
    have gA := g1.then0 (g2.untell hb1 he1)
    refine ⟨_, rfl, _, x, rfl, hx, gA.sub, fun v B3 H3 g3 hv => ?_⟩
    cases hv
    have gB := gA.then0 g3
    have hDB := hD.go0 gB
    have heB : H3 e = some (.dK (ansV kn)) := gB.same _ _ he
    obtain ⟨nv3, qv3, ev3, uv3, vv3, b0, b1, b2, b3, b4, ⟨vp, ws, rfl, hvp, hvP⟩⟩ := hDB.st.ex
    have hwl : ws.length = st.now.vows.length := by have := hvP.length; rw [List.length_map] at this; exact this.symm
    have hvl : st.now.vows.length + 1 ≤ 1000 := by have := ok.vl; dsimp only at this; rw [List.length_append] at this; exact this
    refine ⟨_, rfl, d, _, ddx, _, _, rfl, hDB.hd, cl_Register T, na_Register_state T, rfl, s, _, sdx, _, _, 4, _, rfl, .inr ⟨b0, hDB.st.dx⟩, cl_State T, sl_vows T, rfl, vp, ws, rfl, .inl (sqT_same gB.sub hvp), ?_⟩
    refine ⟨_, rfl, e, _, rfl, .inl heB, fun q hq => ⟨_, rfl, line_le (show 2 ≤ 1000000 by decide), fun t ht => ⟨line_le (by rw [List.length_append]; show ws.length + 1 ≤ 1000000; omega), fun u hu => ?_⟩⟩⟩
    have l4 := Gr.lay (M := M0) (o := .dK (ansV kn)) gB.sub hq
    have g4 := gB.then0 l4
    have l5 := Gr.lay (M := M0) (o := .tup [.ref q, .str x]) g4.sub ht
    have g5 := g4.then0 l5
    have l6 := Gr.lay (M := M0) (o := .tup (ws ++ [.ref t])) g5.sub hu
    have g6 := g5.then0 l6
    have hD6 := hD.go0 g6
    obtain ⟨nv6, qv6, ev6, uv6, vv6, c0, c1, c2, c3, c4, c5⟩ := hD6.st.ex
    refine ⟨_, rfl, d, ddx, _, rfl, hD6.hd, rfl, _, rfl, e, _, rfl, .inl (g6.same _ _ he), fun q2 hq2 => ⟨_, rfl, line_le (show 3 ≤ 1000000 by decide), fun o ho => ?_⟩⟩
    have l7 := Gr.lay (M := M0) (o := .dK (ansV kn)) g6.sub hq2
    have g7 := g6.then0 l7
    have l8 := Gr.lay (M := M0) (o := .tup [.str "promise", .ref q2, .str x]) g7.sub ho
    have g8 := g7.then0 l8
    have hD8 := hD.go0 g8
    obtain ⟨nv8, qv8, ev8, uv8, vv8, d0, d1, d2, d3, d4, d5⟩ := hD8.st.ex
    refine ⟨_, rfl, _, rfl, _, rfl, d, _, ddx, _, _, rfl, hD8.hd, cl_Register T, na_Register_state T, rfl, s, _, sdx, _, _, 0, _, rfl, .inr ⟨d0, hD8.st.dx⟩, cl_State T, sl_noted T, rfl, ?_⟩
    have k6 := l7.base.trans l8.base
    have k5 := l6.base.trans k6
    have k4 := l5.base.trans k5
    have hrow : rRow K (kn, x) (.ref t) _ := mono_row (K := K) (kn, x) _ _ _ k5 ⟨t, q, rfl, .inl (.inl upd_same), l5.base _ _ upd_same⟩
    have hvw : rVows K (st.now.vows ++ [(kn, x)]) (.ref u) _ := ⟨u, ws ++ [.ref t], rfl, .inl (.inl (k6 _ _ upd_same)), by
      rw [List.map_append]
      exact PairR.snoc (hvP.mono (l4.base.trans k4) (mem_map_mono mono_row)) hrow⟩
    refine ⟨_, d, ddx, s, sdx, st, .ref o, .ref pa, .ref u, nv8, ⟨st.now.es, st.now.vows ++ [(kn, x)], st.now.noted⟩, rfl, hD8, ⟨o, _, rfl, .inl (.inl upd_same), .inl ⟨q2, _, _, rfl, l8.base _ _ upd_same⟩⟩, mono_stack _ _ _ _ g8.base a3, hvw, d1, ok, hl, g8.sub, fun hb B9 H9 g9 hD9 => ?_, fun i hb => by rw [hbr] at hb; cases hb⟩
    have hlu : SqT K H9 u (ws ++ [.ref t]) := sqT_same g9.sub (sqT_same g9.base (.inl (.inl (k6 _ _ upd_same))))
    refine ⟨_, rfl, u, _, rfl, .inr hlu, ?_⟩
    have e9 : ((ws ++ [V.ref t]).length : Int) = ((st.now.vows.length + 1 : Nat) : Int) := by
      rw [List.length_append, hwl]
      rfl
    rw [e9]
    exact k B9 H9 (Gr.trans hD.st.mok g8.up g9) hD9
end
end Lg
/-! D20 -/
set_option maxHeartbeats 4000000
namespace Lg
open PySem L2
section
variable {P : Program} {w : World} {K : PySem.W.Frag} {mg : Str → Option Value} {base : Heap}
def sp_Register_store (K : PySem.W.Frag) : Sp := fun vs H Q _ => ∃ (B : Hp) (d ddx s sdx : Addr) (st : Stt) (nm : Str), vs = [.ref d, .str nm] ∧ okMod nm = true ∧ Dk K B H d ddx s sdx st ∧ st.now.noted = [] ∧ KOk st.now ∧ broken st.now.es st.now.vows = none ∧ st.past.length ≤ 1000 ∧ Same B H ∧
  ∀ B' H', Gr (SM s sdx) B H B' H' → Dk K B' H' d ddx s sdx ⟨⟨st.now.es, st.now.vows, [nm]⟩, st.past ++ [st.now], []⟩ → Q (.bl false) H'
theorem ok_Register_store (T : Txt K mg) : FnOk P w K mg base CX0 10 (a_Register_store K) (fdOf K (a_Register_store K)) ["self", "name"] (sp_Register_store K) := by
  refine (f_Register_store T).ok sc_Register_store (fun vs H Q E h => ?_) (fun cdv A outer s0 H vs Q E hr h => ?_)
  · obtain ⟨B, d, ddx, s, sdx, st, nm, rfl, _⟩ := h
    rfl
  · obtain ⟨B, d, ddx, s, sdx, st, nm, rfl, hw, hD, hn0, ok, hbr, hl, sm, k⟩ := h
    refine ⟨_, (pss_cons (ps_if (pt_not (pt_val (pe_call (ok_is_word T) (hr.mono (by decide)) (by rfl) (g_is_word T) (f_is_word T).kp (b_is_word T) .nil pass0 (pa_cons (pv 1) pa_nil)))) (pss_one ps_never) pss_nil) (pss_cons (ps_asg (SlX.pe_methSl0 (pe_fld (pv 0) rfl) (cl_State T) (m_State_kept T) ((ok_State_kept T).raw (b_State_kept T) .nil) (hr.mono (by decide)) pass0) (pg_tup rfl (pgs_cons (pg_name (i := 2) sc_Register_store.nd rfl (Or.inl rfl)) (pgs_cons (pg_name (i := 3) sc_Register_store.nd rfl (Or.inl rfl)) (pgs_cons (pg_name (i := 4) sc_Register_store.nd rfl (Or.inl rfl)) pgs_nil))))) (pss_cons (ps_expr (pe_meth (pv 0) (cl_Register T) (m_Register_enter T) (ok_Register_enter T) (hr.mono (by decide)) (b_Register_enter T) .nil passL (pa_cons (pe_tup (pa_cons pe_str (pa_cons (pv 1) pa_nil))) (pa_cons (pv 2) (pa_cons (pv 3) (pa_cons (pe_op op_orD (pv 4) (pe_disp (pps_cons (pv 1) (pe_tup (pa_cons (pv 2) (pa_cons (pv 3) pa_nil))) pps_nil) (by rfl) (by rfl) (fun z => by cases z) (by decide))) pa_nil)))))) (pss_one (ps_ret (pe_cmp (pc_din (hu_of hr) (pv 1) (pv 4)))))))), ?_⟩
    refine ⟨_, rfl, B, nm, rfl, hw, sm, fun v B1 H1 g1 hv => ?_⟩
    cases hv
    refine ⟨_, rfl, iteF ?_⟩
    have hD1 := hD.go0 g1
    obtain ⟨nv, qv, ev, uv, vv, a0, _⟩ := id hD1.st.ex
    refine ⟨_, rfl, d, _, ddx, _, _, rfl, hD1.hd, cl_Register T, na_Register_state T, rfl, s, sdx, _, rfl, .inr ⟨a0, hD1.st.dx⟩, B1, s, sdx, st, rfl, hD1.st, g1.sub, fun kv B2 H2 g2 hk => ?_⟩
    obtain ⟨t, pv0, vw, nt, rfl, ht, h1, h2, h3⟩ := hk
    refine ⟨t, _, rfl, sqT_same g2.sub ht, rfl, _, _, rfl, _, _, rfl, _, _, rfl, rfl, ?_⟩
    have gA := g1.then0 g2
    have hDA := hD.go0 gA
    refine ⟨_, rfl, d, ddx, _, rfl, hDA.hd, rfl, _, rfl, line_le (show 2 ≤ 1000000 by decide), fun o ho => ?_⟩
    have l3 := Gr.lay (M := M0) (o := .tup [.str "store", .str nm]) gA.sub ho
    have g3 := gA.then0 l3
    obtain ⟨nd, kvs, rfl, hnd, hks⟩ := id h3
    have hk0 : kvs = [] := by
      rw [hn0] at hks
      exact List.map_eq_nil_iff.mp hks
    subst hk0
    refine ⟨_, rfl, _, rfl, _, rfl, fun p1 hp1 => ?_⟩
    have l4 := Gr.hid (M := M0) (o := .dK []) g3.sub hp1
    have g4 := g3.then0 l4
    refine ⟨_, rfl, _, rfl, _, rfl, line_le (show 2 ≤ 1000000 by decide), fun t2 ht2 => ?_⟩
    have l5 := Gr.lay (M := M0) (o := .tup [pv0, vw]) g4.sub ht2
    have g5 := g4.then0 l5
    have np : t2 ≠ p1 := by
      rintro rfl
      rw [upd_same] at ht2
      cases ht2
    have hB5 : upd (upd B2 o (.tup [.str "store", .str nm])) t2 (.tup [pv0, vw]) p1 = none := by rw [upd_ne np.symm]; exact g3.sub.free hp1
    have g6 := g5.mut (o := .dK (mergeK [] [(Sum.inr nm, .ref t2)])) hB5 (.inl (g3.same.free hp1))
    have hnd6 := g6.sub _ _ (l5.base _ _ (l3.base _ _ hnd))
    refine ⟨by rw [upd_ne np.symm]; exact upd_same, [(Sum.inr nm, .ref t2)], rfl, (show 1 ≤ 15 by decide), nd, p1, [], [(Sum.inr nm, .ref t2)], rfl, rfl, hnd6, upd_same, (show 0 + 1 ≤ 1000000 by decide), fun u hu => ?_⟩
    have l7 := Gr.lay (M := M0) (o := .dK (mergeK [] [(Sum.inr nm, .ref t2)])) g6.sub hu
    have g7 := g6.then0 l7
    have hD7 := hD.go0 g7
    have k3 := l5.base.trans l7.base
    refine ⟨_, d, ddx, s, sdx, st, .ref o, pv0, vw, .ref u, ⟨st.now.es, st.now.vows, [nm]⟩, rfl, hD7, ⟨o, _, rfl, .inl (.inl (k3 _ _ upd_same)), .inr ⟨"store", .str nm, by decide, rfl⟩⟩, mono_stack _ _ _ _ (l3.base.trans k3) h1, mono_vows _ _ _ _ (l3.base.trans k3) h2, ⟨u, _, rfl, upd_same, rfl⟩, ⟨ok.es, ok.ml, ok.vl, ok.vk⟩, hl, g7.sub, fun _ B9 H9 g9 hD9 => ?_, fun i hb => by dsimp only at hb; rw [hbr] at hb; cases hb⟩
    have hn9 : H9 nd = some (.dK []) := g9.sub _ _ (g9.base _ _ (l7.base _ _ (l5.base _ _ (l3.base _ _ hnd))))
    exact ⟨_, rfl, _, rfl, nd, none, rfl, DGet.k (k := Sum.inr nm) hn9, k B9 H9 (Gr.trans hD.st.mok g7.up g9) hD9⟩
/-- an operation that stores -/
def sp_Register_execute (K : PySem.W.Frag) : Sp := fun vs H Q _ => ∃ (B : Hp) (d ddx s sdx : Addr) (st : Stt) (o : Addr) (nm : Str), vs = [.ref d, .ref o] ∧ SqT K B o [.str "store", .str nm] ∧ okMod nm = true ∧ Dk K B H d ddx s sdx st ∧ st.now.noted = [] ∧ KOk st.now ∧ broken st.now.es st.now.vows = none ∧ st.past.length ≤ 1000 ∧ Same B H ∧
  ∀ B' H', Gr (SM s sdx) B H B' H' → Dk K B' H' d ddx s sdx ⟨⟨st.now.es, st.now.vows, [nm]⟩, st.past ++ [st.now], []⟩ → Q (.bl false) H'
theorem ok_Register_execute (T : Txt K mg) : FnOk P w K mg base CX0 11 (a_Register_execute K) (fdOf K (a_Register_execute K)) ["self", "operation"] (sp_Register_execute K) := by
  refine (f_Register_execute T).ok sc_Register_execute (fun vs H Q E h => ?_) (fun cdv A outer s0 H vs Q E hr h => ?_)
  · obtain ⟨B, d, ddx, s, sdx, st, o, nm, rfl, _⟩ := h
    rfl
  · obtain ⟨B, d, ddx, s, sdx, st, o, nm, rfl, ho, hw, hD, hn0, ok, hbr, hl, sm, k⟩ := h
    refine ⟨_, (pss_cons (ps_par (i := 2) (j := 3) rfl sc_Register_execute.nd rfl rfl (by decide) rfl rfl (pa_cons (pe_ix ix_seq (pv 1) pe_int (fun _ _ => rfl)) (pa_cons (pe_slice sl_tupA (pv 1) (po_some pe_int) po_none) pa_nil)) (by rfl)) (pss_cons (ps_if (pt_cmpR op_eq (pv 2) pe_str (nomark _)) (pss_one ps_never) pss_nil) (pss_cons (ps_if (pt_cmpR op_eq (pv 2) pe_str (nomark _)) (pss_one ps_never) pss_nil) (pss_cons (ps_if (pt_cmpR op_eq (pv 2) pe_str (nomark _)) (pss_one ps_never) pss_nil) (pss_cons (ps_if (pt_cmpR op_eq (pv 2) pe_str (nomark _)) (pss_one ps_never) pss_nil) (pss_cons (ps_if (pt_cmpR op_eq (pv 2) pe_str (nomark _)) (pss_one ps_never) pss_nil) (pss_cons (ps_if (pt_cmpR op_eq (pv 2) pe_str (nomark _)) (pss_one (ps_ret (pe_meth (pv 0) (cl_Register T) (m_Register_store T) (ok_Register_store T) (hr.mono (by decide)) (b_Register_store T) .nil pass0 (pa_cons (pe_ix ix_seq (pv 3) pe_int (fun _ _ => rfl)) pa_nil)))) pss_nil) (pss_cons (ps_if (pt_cmpR op_eq (pv 2) pe_str (nomark _)) (pss_one ps_never) pss_nil) (pss_one ps_never))))))))), ?_⟩
    refine ⟨_, rfl, .inr (.inl ⟨o, _, 0, _, rfl, rfl, sqT_same sm ho, rfl, ?_⟩)⟩
    refine ⟨_, rfl, _, rfl, ?_⟩
    dsimp only [tNoPart]
    refine slA_rep sm ho fun r1 B1 H1 g1 hr1 => ?_
    have hr2 : SqT K B1 r1 [.str nm] := hr1
    refine ⟨_, _, rfl, ?_⟩
    have hD1 := hD.go0 g1
    refine ⟨_, rfl, rfl, false, by decide, iteF ?_⟩
    refine ⟨_, rfl, rfl, false, by decide, iteF ?_⟩
    refine ⟨_, rfl, rfl, false, by decide, iteF ?_⟩
    refine ⟨_, rfl, rfl, false, by decide, iteF ?_⟩
    refine ⟨_, rfl, rfl, false, by decide, iteF ?_⟩
    refine ⟨_, rfl, rfl, true, by decide, iteT ?_⟩
    refine ⟨_, rfl, d, ddx, _, rfl, hD1.hd, rfl, _, rfl, .inr (.inl ⟨r1, _, 0, _, rfl, rfl, sqT_same g1.sub hr2, rfl, ?_⟩)⟩
    exact ⟨B1, d, ddx, s, sdx, st, nm, rfl, hw, hD1, hn0, ok, hbr, hl, g1.sub, fun B' H' g' hD' => k B' H' (Gr.trans hD.st.mok g1.up g') hD'⟩
/-- an operation that stores is one -/
def sp_is_operation (K : PySem.W.Frag) : Sp := fun vs H Q _ => ∃ (B : Hp) (o : Addr) (nm : Str), vs = [.ref o] ∧ SqT K B o [.str "store", .str nm] ∧ Same B H ∧ Ret B H (RV (.bl true)) Q
theorem ok_is_operation (T : Txt K mg) (S : ∃ es n, KDict K w (He.ga K "SIZES") es n) : FnOk P w K mg base CX0 1 (a_is_operation K) (fdOf K (a_is_operation K)) ["value"] (sp_is_operation K) := by
  refine (f_is_operation T).ok sc_is_operation (fun vs H Q E h => ?_) (fun cdv A outer s0 H vs Q E hr h => ?_)
  · obtain ⟨B, o, nm, rfl, _⟩ := h
    rfl
  · obtain ⟨B, o, nm, rfl, ho, sm, k⟩ := h
    obtain ⟨es, n, D⟩ := S
    obtain ⟨tk, hz⟩ := sz_store T
    refine ⟨_, (pss_cons (ps_if (PW.pt (pw_or (pt_not (pt_val (pe_callB call_isi (by rfl) (n_isinstance T) (by decide +kernel) (pa_cons (pv 0) (pa_cons (pe_ty (n := "tuple") (by rfl) (n_tuple T) (by decide +kernel)) pa_nil))))) (pw_or (pt_cmpR (op_eqT0 (hu_of hr)) (pv 0) (pe_tup pa_nil) (nomark _)) (pw_or1 (pt_not (pt_val (pe_callB call_isi (by rfl) (n_isinstance T) (by decide +kernel) (pa_cons (pe_ix ix_seq (pv 0) pe_int (fun _ _ => rfl)) (pa_cons (pe_ty (n := "str") (by rfl) (n_str T) (by decide +kernel)) pa_nil))))))))) (pss_one (ps_ret pe_bl)) pss_nil) (pss_one (ps_ret (pe_cmpR op_eq (pe_getKd (pe_gr (by rfl) (g_SIZES T)) (pe_ix ix_seq (pv 0) pe_int (fun _ _ => rfl)) pe_int ⟨by rfl, by rfl, by rfl, by rfl⟩) (pe_callB call_len_seq (by rfl) (n_len T) (by decide +kernel) (pa_cons (pv 0) pa_nil)) (nomark _))))), ?_⟩
    have ity : ∀ H', Same B H' → TyX K H' (.ref o) (.type "tuple") := fun H' s => tyTup (sqT_same s ho)
    refine ⟨_, rfl, _, .ty _, _, _, true, rfl, .ty _, (ity _ sm), kit_ty (by decide +kernel), ⟨true, rfl, iteF ?_⟩⟩
    refine ⟨_, rfl, line_le (show 0 ≤ 1000000 by decide), fun q hq => ⟨o, q, [.str "store", .str nm], rfl, rfl, ?_, .inl (.inl upd_same), false, rfl, iteF ?_⟩⟩
    · exact sqT_same (Gr.hid (M := M0) (o := .tup []) sm hq).sub ho
    have g1 := Gr.hid (M := M0) (o := .tup []) sm hq
    refine ⟨_, rfl, .inr (.inl ⟨o, _, 0, _, rfl, rfl, sqT_same g1.sub ho, rfl, _, .ty _, _, _, true, rfl, .ty _, (.base (.str _)), kit_ty (by decide +kernel), ⟨true, rfl, iteF ?_⟩⟩)⟩
    refine ⟨He.ga K "SIZES", es, n, rfl, D, _, rfl, .inr (.inl ⟨o, _, 0, _, rfl, rfl, sqT_same g1.sub ho, rfl, "store", _, .int 2, rfl, hz, ⟨tk, rfl⟩, _, rfl, o, _, rfl, .inr (sqT_same g1.sub ho), ?_⟩)⟩
    exact ⟨rfl, k _ _ _ g1 rfl⟩
end
end Lg
/-! D21 -/
set_option maxHeartbeats 4000000
namespace Lg
open PySem L2
section
variable {P : Program} {w : World} {K : PySem.W.Frag} {mg : Str → Option Value} {base : Heap}
theorem StAt.told {B H : Hp} {s sdx D : Addr} {o : HO} {st : Stt} (h : StAt K B H s sdx st) (hb : B D = none) (h1 : D ≠ s) (h2 : D ≠ sdx) : StAt K (upd B D o) H s sdx st := by
  have tB : Same B (upd B D o) := fun a u e => by rw [upd_ne (ne_of_none e hb)]; exact e
  obtain ⟨nv, qv, ev, uv, vv, a0, a1, a2, a3, a4, a5⟩ := h.ex
  exact ⟨⟨nv, qv, ev, uv, vv, a0, mono_noted _ _ _ _ tB a1, mono_past _ _ _ _ tB a2, mono_stack _ _ _ _ tB a3, mono_past _ _ _ _ tB a4, mono_vows _ _ _ _ tB a5⟩, h.dx, by rw [upd_ne h1.symm]; exact h.hs, by rw [upd_ne h2.symm]; exact h.hd⟩
theorem Gr.there' {M : Addr → Prop} {B H B1 H1 : Hp} (g : Gr M B H B1 H1) {a : Addr} (h : H1 a = none) : H a = none := by
  cases e : H a with
  | none => rfl
  | some o =>
    obtain ⟨o', e'⟩ := g.there a o e
    rw [h] at e'
    cases e'
/-- with Trial(self) as trial: body -/
theorem with_trial {B H : Hp} {d ddx s sdx : Addr} {st : Stt} {E : XK} {te : TE} {i : Nat} {tb : TS} {D : Ends} {σ : L2.St} (hD : Dk K B H d ddx s sdx st) (sm : Same B H)
    (hte : ∀ Q : VK, (∀ t tdx, H t = none → H tdx = none → tdx ≠ t → Q (.ref t) (upd (upd (upd H tdx (.own t)) t (.ins (c_Trial K) tdx [])) t (insTr K tdx d s s s))) → te σ H Q)
    (body : ∀ t tdx n1 x1 n2 x2 B1 H1, Gr (fun z => z = d) B H B1 H1 → H1 t = some (insTr K tdx d s n2 n1) → B1 t = none → Dk K B1 H1 d ddx n2 x2 st → StAt K B1 H1 n1 x1 st → StAt K B1 H1 s sdx st → (H t = none ∧ H n1 = none ∧ H x1 = none ∧ H n2 = none ∧ H x2 = none) →
      (n1 ≠ n2 ∧ n1 ≠ x2 ∧ x1 ≠ n2 ∧ x1 ≠ x2) →
      tb ⟨fun σ' H' => sp_Trial_exit K [.ref t, .non, .non, .non] H' (fun _ H'' => D.nx σ' H'') E, fun _ _ => False, fun _ _ => False, fun _ _ => False⟩ (σ.set i (some (.ref t))) H1) :
    tWith (c_Trial K) (fun vs H Q E => sp_Trial_enter K (vs ++ []) H Q E) (fun vs H Q E => sp_Trial_exit K (vs ++ []) H Q E) E te i tb D σ H := by
  refine hte _ fun t tdx ht htd hne => ?_
  have hdt : d ≠ t := ne_of_none hD.hd ht
  have hBt : B t = none := sm.free ht
  have g0 : Gr M0 B H B (upd (upd (upd H tdx (.own t)) t (.ins (c_Trial K) tdx [])) t (insTr K tdx d s s s)) := by
    have h1 : Gr M0 B H B (upd H tdx (.own t)) := Gr.hid sm htd
    have h2 := h1.mut (o := .ins (c_Trial K) tdx []) hBt (.inl ht)
    exact h2.mut (o := insTr K tdx d s s s) hBt (.inl ht)
  have hD0 := hD.go0 g0
  refine ⟨t, _, _, rfl, upd_same, B, t, tdx, d, ddx, s, sdx, s, s, s, st, rfl, upd_same, hD0.hd, hBt, hD.hb, hD0.st, g0.sub, fun n1 x1 n2 x2 B1 H1 g1 e1 e2 s1 s2 f4 ds => ?_⟩
  have fr : ∀ z, upd (upd (upd H tdx (.own t)) t (.ins (c_Trial K) tdx [])) t (insTr K tdx d s s s) z = none → H z = none := fun z hz => g0.same.free hz
  have gA : Gr (fun z => z = d) B H B1 H1 := by
    refine ⟨g0.base.trans g1.base, g1.sub, fun a o n e => g1.keep a o (fun z => ?_) (g0.keep a o (fun z => z) e), fun a o e => g1.there a _ (g0.keep a o (fun z => z) e), fun a o e1 e2 => g1.new a _ (g0.new a o e1 e2) (g0.keep a o (fun z => z) e2)⟩
    rcases z with rfl | rfl
    · rw [ht] at e; cases e
    · exact n rfl
  have nts : s ≠ t ∧ sdx ≠ t := by
    obtain ⟨nv, qv, ev, uv, vv, a0, _⟩ := hD.st.ex
    exact ⟨ne_of_none a0 ht, ne_of_none hD.st.dx ht⟩
  have hs1 : StAt K B1 H1 s sdx st := hD.st.go gA (fun z => hD.ne.1 z.symm) (fun z => hD.ne.2 z.symm)
  exact body t tdx n1 x1 n2 x2 B1 H1 gA e1 (g1.new _ _ hBt upd_same) ⟨e2, g1.new _ _ hD.hb hD0.hd, s2⟩ s1 hs1 ⟨ht, fr _ f4.1, fr _ f4.2.1, fr _ f4.2.2.1, fr _ f4.2.2.2⟩ ds
/-- where a trial changes the desk -/
abbrev TM (s sdx d : Addr) : Addr → Prop := fun z => z = s ∨ z = sdx ∨ z = d
def sp_apply_all (K : PySem.W.Frag) : Sp := fun vs H Q _ => ∃ (B : Hp) (d ddx s sdx : Addr) (st : Stt) (l o : Addr) (nm : Str), vs = [.ref d, .ref l] ∧ B l = some (.lst [.ref o]) ∧ SqT K B o [.str "store", .str nm] ∧ okMod nm = true ∧ Dk K B H d ddx s sdx st ∧ st.now.noted = [] ∧ KOk st.now ∧ broken st.now.es st.now.vows = none ∧ st.past.length ≤ 1000 ∧ Same B H ∧
  ∀ v B' H', Gr (TM s sdx d) B H B' H' → Dk K B' H' d ddx s sdx ⟨⟨st.now.es, st.now.vows, [nm]⟩, st.past ++ [st.now], []⟩ → RLst [RV (.bl false)] v B' → Q v H'
theorem ok_Register_apply_all (T : Txt K mg) (S : ∃ es n, KDict K w (He.ga K "SIZES") es n) : FnOk P w K mg base CX0 12 (a_Register_apply_all K) (fdOf K (a_Register_apply_all K)) ["self", "operations"] (sp_apply_all K) := by
  refine (f_Register_apply_all T).ok sc_Register_apply_all (fun vs H Q E h => ?_) (fun cdv A outer s0 H vs Q E hr h => ?_)
  · obtain ⟨B, d, ddx, s, sdx, st, l, o, nm, rfl, _⟩ := h
    rfl
  · obtain ⟨B, d, ddx, s, sdx, st, l, o, nm, rfl, hl, ho, hw, hD, hn0, ok, hbr, hp, sm, k⟩ := h
    have ok_is_operation := fun (T : Txt K mg) => ok_is_operation (P := P) (base := base) T S
    refine ⟨_, (pss_cons (ps_for PassesOwn.never rfl (pi_enum (by rfl) (n_enumerate T) (pa_cons (pv 1) pa_nil)) (pg_tup rfl (pgs_cons (pg_name (i := 2) sc_Register_apply_all.nd rfl (Or.inl rfl)) (pgs_cons (pg_name (i := 3) sc_Register_apply_all.nd rfl (Or.inl rfl)) pgs_nil))) (pss_one (ps_if (pt_not (pt_val (pe_call (ok_is_operation T) (hr.mono (by decide)) (by rfl) (g_is_operation T) (f_is_operation T).kp (b_is_operation T) .nil pass0 (pa_cons (pv 3) pa_nil)))) (pss_one ps_never) pss_nil))) (pss_cons (ps_with (i := 4) (pe_make (mk_Trial T) (ok_Trial_init T) (hr.mono (by decide)) (by rfl) (g_Trial T) (b_Trial_init T) .nil pass0 (pa_cons (pv 0) pa_nil)) sc_Register_apply_all.nd rfl (Or.inl rfl) (fi_Trial_enter T) (fn_Trial_enter T) (fi_Trial_exit T) (fn_Trial_exit T) ((ok_Trial_enter T).raw (b_Trial_enter T) .nil) ((ok_Trial_exit T).raw (b_Trial_exit T) .nil) (hr.mono (by decide)) (hr.mono (by decide)) pass0 (pss_cons (ps_setLc (i := 5) (own := [("operation", 3)]) (by rfl) sc_Register_apply_all.nd rfl rfl (sw_true rfl rfl rfl (by decide +kernel)) (pi_list (pv 1)) (blkOk_by (own := [("operation", 3)]) (N := N_Register_apply_all) (sc := defScope s_Register_apply_all) (by decide +kernel)) (fun _ _ _ _ _ => (pg_name (i := 3) sc_Register_apply_all.nd rfl (Or.inl rfl))) (fun _ _ _ _ _ => pts_nil) (fun _ _ _ _ _ => (pe_meth (pv 0) (cl_Register T) (m_Register_execute T) (ok_Register_execute T) (hr.mono (by decide)) (b_Register_execute T) .nil pass0 (pa_cons (pv 3) pa_nil)))) (pss_one (ps_expr (pe_meth0 (pv 4) (cl_Trial T) (m_Trial_hold T) (ok_Trial_hold T) (hr.mono (by decide)) (b_Trial_hold T) .nil pass0))))) (pss_one (ps_ret (pv 5))))), ?_⟩
    refine ⟨_, rfl, l, _, rfl, SqL.of (sm _ _ hl), ?_⟩
    refine for_it (walk_enum (K := K) (a := l) (xs := [V.ref o])) (fun i σ H' => ∃ x2 x3, Gr M0 B H B H' ∧ σ = [some (.ref d), some (.ref l), x2, x3, none, none]) ⟨none, none, Gr.refl sm, rfl⟩ (fun i σ H' hi pv => ?_) (fun i x σ H' H2 hi pv y => ?_) (fun σ H' pv => ?_)
    · obtain ⟨x2, x3, g, rfl⟩ := pv
      exact SqL.of (g.sub _ _ hl)
    · obtain ⟨x2, x3, g, rfl⟩ := pv
      obtain ⟨Tq, y1, y2, rfl, hTq, rfl, e1, e2⟩ := y
      have hi0 : i = 0 := by simpa using hi
      subst hi0
      cases e1
      cases e2
      have g2 := g.then0 (Gr.hid (o := .tup [.int (0 : Nat), .ref o]) g.sub hTq)
      refine ⟨Tq, _, rfl, .inl (.inl upd_same), rfl, _, _, rfl, _, _, rfl, rfl, ?_⟩
      refine ⟨_, rfl, B, o, nm, rfl, ho, g2.sub, fun v B3 H3 g3 hv => ?_⟩
      cases hv
      have g4 := g2.then0 g3
      refine ⟨_, rfl, iteF ?_⟩
      refine ⟨_, _, ⟨Same.refl _, fun a u e => g4.sub _ _ (g4.base _ _ e), g4.keep, g4.there, fun a u e1 _ => e1⟩, rfl⟩
    · obtain ⟨x2, x3, g, rfl⟩ := pv
      have hD0 := hD.go0 g
      dsimp only [tSeq]
      refine with_trial hD0 g.sub (fun Q hQ => ⟨_, rfl, fun t tdx ht htd hne => ⟨t, tdx, d, ddx, s, rfl, upd_same, ?_, rfl, hQ t tdx ht htd hne⟩⟩) (fun t tdx n1 x1 n2 x2 B1 H1 gA ht hBt hD1 hs1 hs fr ds => ?_)
      · rw [upd_ne (ne_of_none hD0.hd ht), upd_ne (ne_of_none hD0.hd htd)]; exact hD0.hd
      · have hl1 : B1 l = some (.lst [.ref o]) := gA.base _ _ (g.base _ _ hl)
        have ho1 : SqT K B1 o [.str "store", .str nm] := sqT_same (g.base.trans gA.base) ho
        refine ⟨_, rfl, l, rfl, ⟨[V.ref o], SqL.of (gA.sub _ _ hl1)⟩, fun D hDn => ?_⟩
        have hBD : B1 D = none := gA.sub.free hDn
        refine lc_it (walk_list (K := K) (a := l) (xs := [V.ref o])) (fun i H' => (i = 0 ∧ Gr M0 B1 H1 B1 H' ∧ H' D = some (.lst [])) ∨ (i = 1 ∧ ∃ B2, Gr (SM n2 x2) B1 H1 B2 H' ∧ Dk K B2 H' d ddx n2 x2 ⟨⟨st.now.es, st.now.vows, [nm]⟩, st.past ++ [st.now], []⟩ ∧ B2 D = none ∧ H' D = some (.lst [.bl false]))) (.inl ⟨rfl, (Gr.refl gA.sub).mut hBD (.inl hDn), upd_same⟩) (fun i H' hi pv => ?_) (fun i x H' H2 hi pv y => ?_) (fun H5 pv => ?_)
        · rcases pv with ⟨_, g2, _⟩ | ⟨_, B2, g2, _⟩
          · exact SqL.of (g2.sub _ _ hl1)
          · exact SqL.of (g2.sub _ _ (g2.base _ _ hl1))
        · have hi0 : i = 0 := by simpa using hi
          subst hi0
          rcases pv with ⟨_, g2, hd2⟩ | ⟨z, _⟩
          · obtain ⟨rfl, e2⟩ := y
            cases e2
            have hD2 := hD1.go0 g2
            refine ⟨rfl, ⟨_, rfl, d, ddx, _, rfl, hD2.hd, rfl, _, rfl, B1, d, ddx, n2, x2, st, o, nm, rfl, ho1, hw, hD2, hn0, ok, hbr, hp, g2.sub, fun B3 H3 g3 hD3 => ?_⟩⟩
            obtain ⟨nv2, qv2, ev2, uv2, vv2, c0, _⟩ := hD2.st.ex
            have nD : D ≠ n2 ∧ D ≠ x2 := ⟨ne_of hd2 c0 (fun z => by cases z), ne_of hd2 hD2.st.dx (fun z => by cases z)⟩
            have hd3 : H3 D = some (.lst []) := g3.keep _ _ (fun z => z.elim nD.1 nD.2) hd2
            have hb3 : B3 D = none := g3.new _ _ hBD hd2
            have g4 : Gr (SM n2 x2) B1 H1 B3 H3 := Gr.trans' g2.up g3 (fun z h => .inl h)
            have g5 := g4.mut (o := .lst ([] ++ [V.bl false])) hb3 (.inl hDn)
            have g6 : Gr (fun z => z = D) B3 H3 B3 (upd H3 D (.lst ([] ++ [V.bl false]))) := Gr.set g3.sub hb3 rfl
            have hdn : d ≠ D := ne_of hD3.hd hd3 (fun z => by cases z)
            exact ⟨[], hd3, by decide, .inr ⟨rfl, B3, g5, ⟨by rw [upd_ne hdn]; exact hD3.hd, hD3.hb, hD3.st.go g6 (fun z => nD.1 z.symm) (fun z => nD.2 z.symm)⟩, hb3, upd_same⟩⟩
          · exact absurd z (by decide)
        · rcases pv with ⟨z, _⟩ | ⟨_, B2, g2, hD2, hbD, hDl⟩
          · exact absurd z (by simp)
          · obtain ⟨nv1, qv1, ev1, uv1, vv1, c1, _⟩ := id hD1.st.ex
            have nt : t ≠ n2 ∧ t ≠ x2 := ⟨ne_of ht c1 (fun z => by cases z), ne_of ht hD1.st.dx (fun z => by cases z)⟩
            have ht5 : H5 t = some (insTr K tdx d s n2 n1) := g2.keep _ _ (fun z => z.elim nt.1 nt.2) ht
            have hbt5 : B2 t = none := g2.new _ _ hBt ht
            refine ⟨_, rfl, t, tdx, _, rfl, ht5, rfl, t, tdx, d, s, n2, n1, rfl, ht5, ?_⟩
            have gt : Gr (fun z => z = t) B2 H5 B2 (upd H5 t (insTr K tdx d s n2 n2)) := Gr.set g2.sub hbt5 rfl
            have hdt : d ≠ t := ne_of hD2.hd ht5 (fun z => by injection z with _ _ h; exact absurd (congrArg List.length h) (by simp))
            have hd6 : upd H5 t (insTr K tdx d s n2 n2) d = some (insReg K ddx n2) := by rw [upd_ne hdt]; exact hD2.hd
            obtain ⟨nv9, qv9, ev9, uv9, vv9, z0, _⟩ := id hD0.st.ex
            have q1 : s ≠ n2 := ne_of_none z0 fr.2.2.2.1
            have q2 : s ≠ x2 := ne_of_none z0 fr.2.2.2.2
            have q3 : sdx ≠ n2 := ne_of_none hD0.st.dx fr.2.2.2.1
            have q4 : sdx ≠ x2 := ne_of_none hD0.st.dx fr.2.2.2.2
            have q5 : s ≠ t := ne_of_none z0 fr.1
            have q6 : sdx ≠ t := ne_of_none hD0.st.dx fr.1
            have hs2 : StAt K B2 H5 s sdx st := hs.go g2 (fun z => z.elim q1 q2) (fun z => z.elim q3 q4)
            have hs3 : StAt K B2 (upd H5 t (insTr K tdx d s n2 n2)) s sdx st := hs2.go gt q5 q6
            have hn3 : StAt K B2 (upd H5 t (insTr K tdx d s n2 n2)) n2 x2 _ := hD2.st.go gt (fun z => nt.1 z.symm) (fun z => nt.2 z.symm)
            refine ⟨B2, t, tdx, d, ddx, n2, s, sdx, n2, n2, x2, st, _, rfl, upd_same, hd6, hD2.hb, hs3, hn3, ⟨q1.symm, q3.symm, q2.symm, q4.symm⟩, gt.sub, fun H7 g7 hs7 hd7 => ?_⟩
            have hDt : D ≠ t := ne_of hDl ht5 (fun z => by cases z)
            have hDd : D ≠ d := ne_of hDl hD2.hd (fun z => by cases z)
            obtain ⟨nv8, qv8, ev8, uv8, vv8, z8, _⟩ := id hs2.ex
            have hDs : D ≠ s := ne_of hDl z8 (fun z => by cases z)
            have hDx : D ≠ sdx := ne_of hDl hs2.dx (fun z => by cases z)
            have hD6 : upd H5 t (insTr K tdx d s n2 n2) D = some (.lst [.bl false]) := by rw [upd_ne hDt]; exact hDl
            have hD7 : H7 D = some (.lst [.bl false]) := g7.keep _ _ (fun z => z.elim hDs fun z => z.elim hDx hDd) hD6
            have hb7 : B2 D = none := hbD
            have G1 : Gr (TM s sdx d) B H B1 H1 := Gr.trans' g.up gA (fun z hz => .inl (.inr (.inr hz)))
            have fn : ∀ z, H' z = none → H z = none := fun z hz => g.same.free hz
            have G2 : Gr (TM s sdx d) B H B2 H5 := Gr.trans' G1 g2 (fun z hz => .inr (fn z (hz.elim (fun e => e ▸ fr.2.2.2.1) (fun e => e ▸ fr.2.2.2.2))))
            have G3 : Gr (TM s sdx d) B H B2 _ := Gr.trans' G2 gt (fun z hz => .inr (fn z (hz ▸ fr.1)))
            have G4 : Gr (TM s sdx d) B H B2 H7 := Gr.trans' G3 g7 (fun z hz => .inl hz)
            have G5 := G4.tell (fn D (gA.there' hDn)) hD7 hb7
            exact ⟨_, rfl, k _ _ _ G5 ⟨hd7, by rw [upd_ne hDd.symm]; exact hD2.hb, hs7.told hb7 hDs hDx⟩ ⟨D, [.bl false], rfl, upd_same, rfl, trivial⟩⟩
def sp_tried (K : PySem.W.Frag) : Sp := fun vs H Q _ => ∃ (B : Hp) (d ddx s sdx : Addr) (st : Stt) (l o : Addr) (nm : Str) (keep : Bool), vs = [.ref d, .ref l, .bl keep] ∧ B l = some (.lst [.ref o]) ∧ SqT K B o [.str "store", .str nm] ∧ okMod nm = true ∧ Dk K B H d ddx s sdx st ∧ st.now.noted = [] ∧ KOk st.now ∧ broken st.now.es st.now.vows = none ∧ st.past.length ≤ 1000 ∧ Same B H ∧
  ∀ v B' H', Gr (TM s sdx d) B H B' H' → Dk K B' H' d ddx s sdx (if keep = true then ⟨⟨st.now.es, st.now.vows, [nm]⟩, st.past ++ [st.now], []⟩ else st) → RLst [RV (.bl false)] v B' → Q v H'
theorem ok_Register_tried (T : Txt K mg) (S : ∃ es n, KDict K w (He.ga K "SIZES") es n) : FnOk P w K mg base CX0 13 (a_Register_tried K) (fdOf K (a_Register_tried K)) ["self", "operations", "keep"] (sp_tried K) := by
  refine (f_Register_tried T).ok sc_Register_tried (fun vs H Q E h => ?_) (fun cdv A outer s0 H vs Q E hr h => ?_)
  · obtain ⟨B, d, ddx, s, sdx, st, l, o, nm, keep, rfl, _⟩ := h
    rfl
  · obtain ⟨B, d, ddx, s, sdx, st, l, o, nm, keep, rfl, hl, ho, hw, hD, hn0, ok, hbr, hp, sm, k⟩ := h
    have ok_Register_apply_all := fun (T : Txt K mg) => ok_Register_apply_all (P := P) (base := base) T S
    refine ⟨_, (pss_cons (ps_with (i := 3) (pe_make (mk_Trial T) (ok_Trial_init T) (hr.mono (by decide)) (by rfl) (g_Trial T) (b_Trial_init T) .nil pass0 (pa_cons (pv 0) pa_nil)) sc_Register_tried.nd rfl (Or.inl rfl) (fi_Trial_enter T) (fn_Trial_enter T) (fi_Trial_exit T) (fn_Trial_exit T) ((ok_Trial_enter T).raw (b_Trial_enter T) .nil) ((ok_Trial_exit T).raw (b_Trial_exit T) .nil) (hr.mono (by decide)) (hr.mono (by decide)) pass0 (pss_cons (ps_set (i := 4) sc_Register_tried.nd rfl (Or.inl rfl) (pe_meth (pv 0) (cl_Register T) (m_Register_apply_all T) (ok_Register_apply_all T) (hr.mono (by decide)) (b_Register_apply_all T) .nil pass0 (pa_cons (pv 1) pa_nil))) (pss_one (ps_if (pt_val (pv 2)) (pss_one (ps_expr (pe_meth0 (pv 3) (cl_Trial T) (m_Trial_hold T) (ok_Trial_hold T) (hr.mono (by decide)) (b_Trial_hold T) .nil pass0))) pss_nil)))) (pss_one (ps_ret (pv 4)))), ?_⟩
    dsimp only [tSeq]
    refine with_trial hD sm (fun Q hQ => ⟨_, rfl, fun t tdx ht htd hne => ⟨t, tdx, d, ddx, s, rfl, upd_same, ?_, rfl, hQ t tdx ht htd hne⟩⟩) (fun t tdx n1 x1 n2 x2 B1 H1 gA ht hBt hD1 hs1 hs fr ds => ?_)
    · rw [upd_ne (ne_of_none hD.hd ht), upd_ne (ne_of_none hD.hd htd)]; exact hD.hd
    · have hl1 : B1 l = some (.lst [.ref o]) := gA.base _ _ hl
      have ho1 : SqT K B1 o [.str "store", .str nm] := sqT_same gA.base ho
      refine ⟨_, rfl, d, ddx, _, rfl, hD1.hd, rfl, _, rfl, B1, d, ddx, n2, x2, st, l, o, nm, rfl, hl1, ho1, hw, hD1, hn0, ok, hbr, hp, gA.sub, fun v B2 H2 g2 hD2 hv => ?_⟩
      obtain ⟨nv1, qv1, ev1, uv1, vv1, c1, _⟩ := id hD1.st.ex
      obtain ⟨nv0, qv0, ev0, uv0, vv0, c0, _⟩ := id hs1.ex
      obtain ⟨nv9, qv9, ev9, uv9, vv9, z0, _⟩ := id hD.st.ex
      have q1 : s ≠ n2 := ne_of_none z0 fr.2.2.2.1
      have q2 : s ≠ x2 := ne_of_none z0 fr.2.2.2.2
      have q3 : sdx ≠ n2 := ne_of_none hD.st.dx fr.2.2.2.1
      have q4 : sdx ≠ x2 := ne_of_none hD.st.dx fr.2.2.2.2
      have q5 : s ≠ t := ne_of_none z0 fr.1
      have q6 : sdx ≠ t := ne_of_none hD.st.dx fr.1
      have r1 : s ≠ n1 := ne_of_none z0 fr.2.1
      have r2 : s ≠ x1 := ne_of_none z0 fr.2.2.1
      have r3 : sdx ≠ n1 := ne_of_none hD.st.dx fr.2.1
      have r4 : sdx ≠ x1 := ne_of_none hD.st.dx fr.2.2.1
      have nt : t ≠ n2 ∧ t ≠ x2 := ⟨ne_of ht c1 (fun z => by cases z), ne_of ht hD1.st.dx (fun z => by cases z)⟩
      have nt1 : n1 ≠ t ∧ x1 ≠ t := ⟨ne_of c0 ht (fun z => by cases z), ne_of hs1.dx ht (fun z => by cases z)⟩
      have ndt : t ≠ d := ne_of ht hD1.hd (fun z => by injection z with _ _ h; exact absurd (congrArg List.length h) (by simp))
      have nd1 : n1 ≠ d ∧ x1 ≠ d := ⟨ne_of c0 hD1.hd (fun z => by cases z), ne_of hs1.dx hD1.hd (fun z => by cases z)⟩
      have nds : s ≠ d ∧ sdx ≠ d := ⟨hD.ne.1.symm, hD.ne.2.symm⟩
      have ht2 : H2 t = some (insTr K tdx d s n2 n1) := g2.keep _ _ (fun z => z.elim nt.1 fun z => z.elim nt.2 ndt) ht
      have hbt2 : B2 t = none := g2.new _ _ hBt ht
      have hs12 : StAt K B2 H2 n1 x1 st := hs1.go g2 (fun z => z.elim ds.1 fun z => z.elim ds.2.1 nd1.1) (fun z => z.elim ds.2.2.1 fun z => z.elim ds.2.2.2 nd1.2)
      have hs2 : StAt K B2 H2 s sdx st := hs.go g2 (fun z => z.elim q1 fun z => z.elim q2 nds.1) (fun z => z.elim q3 fun z => z.elim q4 nds.2)
      have G1 : Gr (TM s sdx d) B H B1 H1 := gA.weak fun z hz => .inr (.inr hz)
      have G2 : Gr (TM s sdx d) B H B2 H2 := Gr.trans' G1 g2 (fun z hz => hz.elim (fun e => .inr (e ▸ fr.2.2.2.1)) fun hz => hz.elim (fun e => .inr (e ▸ fr.2.2.2.2)) (fun e => .inl (.inr (.inr e))))
      dsimp only [gName, tSeq]
      cases keep with
      | true =>
        refine ifS_b true (fun Q hQ => ⟨_, rfl, true, rfl, hQ⟩) (fun _ => ?_) (fun z => by cases z)
        refine ⟨_, rfl, t, tdx, _, rfl, ht2, rfl, t, tdx, d, s, n2, n1, rfl, ht2, ?_⟩
        have gt : Gr (fun z => z = t) B2 H2 B2 (upd H2 t (insTr K tdx d s n2 n2)) := Gr.set g2.sub hbt2 rfl
        have hd6 : upd H2 t (insTr K tdx d s n2 n2) d = some (insReg K ddx n2) := by rw [upd_ne ndt.symm]; exact hD2.hd
        refine ⟨B2, t, tdx, d, ddx, n2, s, sdx, n2, n2, x2, st, _, rfl, upd_same, hd6, hD2.hb, hs2.go gt q5 q6, hD2.st.go gt (fun z => nt.1 z.symm) (fun z => nt.2 z.symm), ⟨q1.symm, q3.symm, q2.symm, q4.symm⟩, gt.sub, fun H7 g7 hs7 hd7 => ?_⟩
        have G3 : Gr (TM s sdx d) B H B2 _ := Gr.trans' G2 gt (fun z hz => .inr (hz ▸ fr.1))
        have G4 : Gr (TM s sdx d) B H B2 H7 := Gr.trans' G3 g7 (fun z hz => .inl hz)
        exact ⟨_, rfl, k v B2 H7 G4 ⟨hd7, hD2.hb, hs7⟩ hv⟩
      | false =>
        refine ifS_b false (fun Q hQ => ⟨_, rfl, false, rfl, hQ⟩) (fun z => by cases z) (fun _ => ?_)
        refine ⟨B2, t, tdx, d, ddx, n2, s, sdx, n2, n1, x1, st, st, rfl, ht2, hD2.hd, hD2.hb, hs2, hs12, ⟨r1.symm, r3.symm, r2.symm, r4.symm⟩, g2.sub, fun H7 g7 hs7 hd7 => ?_⟩
        have G4 : Gr (TM s sdx d) B H B2 H7 := Gr.trans' G2 g7 (fun z hz => .inl hz)
        exact ⟨_, rfl, k v B2 H7 G4 ⟨hd7, hD2.hb, hs7⟩ hv⟩
end
end Lg
/-! D22 -/
set_option maxHeartbeats 4000000
namespace Lg
open PySem L2
section
variable {P : Program} {w : World} {K : PySem.W.Frag} {mg : Str → Option Value} {base : Heap}
/-- the law's row of numbers -/
def Wr (K : PySem.W.Frag) (B H : Hp) (r : Addr) : Prop := B r = none ∧ ∃ (sc : Addr) (xs : List Int) (a b c : Int), H r = some (.lst [.ref sc, .int a, .int b, .int c]) ∧ SqL K B sc (xs.map V.int) ∧ 0 ≤ a ∧ 0 ≤ c
theorem sqL_same {B B' : Hp} {a : Addr} {xs : List V} (s : Same B B') (h : SqL K B a xs) : SqL K B' a xs := by
  rcases h with (h | ⟨o, h⟩) | h
  · exact .inl (.inl (s _ _ h))
  · exact .inl (.inr ⟨o, s _ _ h⟩)
  · exact .inr h
theorem Wr.go {M : Addr → Prop} {B H B1 H1 : Hp} {r : Addr} (h : Wr K B H r) (g : Gr M B H B1 H1) (n : ¬ M r) : Wr K B1 H1 r := by
  obtain ⟨hb, sc, xs, a, b, c, h1, h2, h3, h4⟩ := h
  exact ⟨g.new _ _ hb h1, sc, xs, a, b, c, g.keep _ _ n h1, sqL_same g.base h2, h3, h4⟩
theorem Wr.go0 {B H B1 H1 : Hp} {r : Addr} (h : Wr K B H r) (g : Gr M0 B H B1 H1) : Wr K B1 H1 r := h.go g (fun z => z)
theorem Wr.mok {B H : Hp} {r : Addr} (h : Wr K B H r) : MOk (fun z => z = r) B H := fun a e => by
  obtain ⟨hb, sc, xs, x, b, c, h1, _⟩ := h
  subst e
  exact ⟨hb, _, h1⟩
theorem at4 (x : V) (a b c : V) : atI [x, a, b, c] 0 = some x ∧ atI [x, a, b, c] 1 = some a ∧ atI [x, a, b, c] 2 = some b ∧ atI [x, a, b, c] 3 = some c := ⟨rfl, rfl, rfl, rfl⟩
/-- some number below m -/
def sp_taken (K : PySem.W.Frag) : Sp := fun vs H Q _ => ∃ (B : Hp) (r : Addr) (m : Int), vs = [.ref r, .int m] ∧ Wr K B H r ∧ 0 < m ∧ m < 1073741824 ∧ Same B H ∧ ∀ i B' H', Gr (fun z => z = r) B H B' H' → Wr K B' H' r → 0 ≤ i → i < m → Q (.int i) H'
theorem ok_w_taken (T : Txt K mg) : FnOk P w K mg base CX0 1 (a_w_taken K) (fdOf K (a_w_taken K)) ["_law_row", "_law_many"] (sp_taken K) := by
  refine (f_w_taken T).ok sc_w_taken (fun vs H Q E h => ?_) (fun cdv A outer s0 H vs Q E hr h => ?_)
  · obtain ⟨B, r, m, rfl, _⟩ := h
    rfl
  · obtain ⟨B, r, m, rfl, hW, hm, hm2, sm, k⟩ := h
    refine ⟨_, (pss_cons (ps_if (pt_cmpR op_gt (pe_ix ix_list (pv 0) pe_int (fun _ _ => rfl)) pe_int (nomark _)) (pss_cons (ps_set (i := 2) sc_w_taken.nd rfl (Or.inl rfl) (pe_op op_mod (pe_callTy call_int1 (by rfl) (n_int T) (by decide +kernel) (pa_cons (pe_ix ix_list (pv 0) pe_int (fun _ _ => rfl)) pa_nil)) (pv 1))) (pss_cons (ps_asg (pe_op op_fdiv (pe_ix ix_list (pv 0) pe_int (fun _ _ => rfl)) (pv 1)) (pg_sub (pv 0) pe_int set_list)) (pss_one (ps_ret (pv 2))))) pss_nil) (pss_cons (ps_asg (pe_op op_add (pe_ix ix_list (pv 0) pe_int (fun _ _ => rfl)) pe_int) (pg_sub (pv 0) pe_int set_list)) (pss_cons (ps_if (pt_cmpR op_gt (pe_ix ix_list (pv 0) pe_int (fun _ _ => rfl)) (pe_callB call_len_seq (by rfl) (n_len T) (by decide +kernel) (pa_cons (pe_ix ix_list (pv 0) pe_int (fun _ _ => rfl)) pa_nil)) (nomark _)) (pss_cons (ps_asg (pe_op op_mod (pe_callTy call_int1 (by rfl) (n_int T) (by decide +kernel) (pa_cons (pe_op op_add (pe_op op_mul (pe_ix ix_list (pv 0) pe_int (fun _ _ => rfl)) pe_int) pe_int) pa_nil)) pe_int) (pg_sub (pv 0) pe_int set_list)) (pss_one (ps_ret (pe_op op_mod (pe_callTy call_int1 (by rfl) (n_int T) (by decide +kernel) (pa_cons (pe_op op_fdiv (pe_ix ix_list (pv 0) pe_int (fun _ _ => rfl)) pe_int) pa_nil)) (pv 1))))) pss_nil) (pss_cons (ps_set (i := 3) sc_w_taken.nd rfl (Or.inl rfl) (pe_ix ix_list (pe_ix ix_list (pv 0) pe_int (fun _ _ => rfl)) (pe_op op_sub (pe_ix ix_list (pv 0) pe_int (fun _ _ => rfl)) pe_int) (fun _ _ => rfl))) (pss_cons (ps_asg (pe_op op_mod (pe_callTy call_int1 (by rfl) (n_int T) (by decide +kernel) (pa_cons (pe_op op_add (pe_op op_add (pe_op op_mul (pe_ix ix_list (pv 0) pe_int (fun _ _ => rfl)) pe_int) (pv 3)) pe_int) pa_nil)) pe_int) (pg_sub (pv 0) pe_int set_list)) (pss_cons (ps_asg (pe_ifExp (pt_cmpR op_ge (pv 3) (pe_op op_pow pe_int pe_int) (nomark _)) (pe_op op_fdiv (pv 3) (pv 1)) pe_int) (pg_sub (pv 0) pe_int set_list)) (pss_one (ps_ret (pe_op op_mod (pe_callTy call_int1 (by rfl) (n_int T) (by decide +kernel) (pa_cons (pv 3) pa_nil)) (pv 1)))))))))), ?_⟩
    obtain ⟨hb, sc, xs, a, b, c, h1, h2, ha, hc⟩ := id hW
    have G : ∀ (G : Hp) (a' b' c' : Int), G = upd H r (.lst [.ref sc, .int a', .int b', .int c']) → Gr (fun z => z = r) B H B G := fun G a' b' c' e => by
      subst e; exact Gr.set sm hb rfl
    have fin : ∀ (a' b' c' i : Int), 0 ≤ a' → 0 ≤ c' → Q (.int (i % m)) (upd H r (.lst [.ref sc, .int a', .int b', .int c'])) := fun a' b' c' i e1 e2 => k _ B _ (Gr.set sm hb rfl) ⟨hb, sc, xs, a', b', c', upd_same, h2, e1, e2⟩ (Int.emod_nonneg _ (by omega)) (Int.emod_lt_of_pos _ hm)
    have u2 : ∀ o o', upd (upd H r o) r o' = upd H r o' := fun _ _ => upd_upd
    refine ⟨_, rfl, r, _, 3, _, rfl, rfl, SqL.of h1, rfl, c, 0, rfl, rfl, _, rfl, ?_⟩
    by_cases c0 : (0 : Int) < c
    · rw [decide_eq_true c0]
      refine iteT ?_
      refine ⟨_, rfl, r, _, 3, _, rfl, rfl, SqL.of h1, rfl, .inl ⟨c, rfl, _, rfl, c, m, rfl, rfl, hm, ?_⟩⟩
      refine ⟨_, rfl, r, _, 3, _, rfl, rfl, SqL.of h1, rfl, _, rfl, c, m, rfl, rfl, ⟨hm, hm2⟩, _, rfl, r, _, 3, 3, rfl, rfl, h1, rfl, ?_⟩
      exact ⟨_, rfl, fin a b (c / m) c ha (Int.ediv_nonneg hc (by omega))⟩
    · rw [decide_eq_false c0]
      refine iteF ?_
      refine ⟨_, rfl, r, _, 1, _, rfl, rfl, SqL.of h1, rfl, a, 1, rfl, rfl, _, rfl, r, _, 1, 1, rfl, rfl, h1, rfl, ?_⟩
      generalize e1 : upd H r (.lst (List.set [V.ref sc, .int a, .int b, .int c] 1 (.int (a + 1)))) = H1
      have f1 : H1 r = some (.lst [.ref sc, .int (a + 1), .int b, .int c]) := by rw [← e1]; exact upd_same
      have g1 : Gr (fun z => z = r) B H B H1 := G _ (a + 1) b c e1.symm
      have hsc : SqL K H1 sc (xs.map V.int) := sqL_same g1.sub h2
      have up1 : ∀ o, upd H1 r o = upd H r o := fun o => by rw [← e1, upd_upd]
      refine ⟨_, rfl, r, _, 1, _, rfl, rfl, SqL.of f1, rfl, _, rfl, r, _, 0, _, rfl, rfl, SqL.of f1, rfl, sc, _, rfl, .inl hsc, _, _, rfl, rfl, _, rfl, ?_⟩
      by_cases cl : (((xs.map V.int).length : Nat) : Int) < a + 1
      · rw [decide_eq_true cl]
        refine iteT ?_
        refine ⟨_, rfl, r, _, 2, _, rfl, rfl, SqL.of f1, rfl, b, 48271, rfl, rfl, .inr ⟨by decide, by decide⟩, _, _, rfl, rfl, .inl ⟨_, rfl, _, _, rfl, rfl, (show (0 : Int) < 2147483647 by decide), _, rfl, r, _, 2, 2, rfl, rfl, f1, rfl, ?_⟩⟩
        rw [up1]
        refine ⟨_, rfl, r, _, 2, _, rfl, rfl, SqL.of upd_same, rfl, _, _, rfl, rfl, ⟨by decide, by decide⟩, .inl ⟨_, rfl, _, rfl, _, m, rfl, rfl, hm, ?_⟩⟩
        exact fin (a + 1) _ c _ (by omega) hc
      · rw [decide_eq_false cl]
        refine iteF ?_
        rw [List.length_map] at cl
        obtain ⟨n, rfl⟩ : ∃ n : Nat, a = n := ⟨a.toNat, by omega⟩
        have hn : n < xs.length := by omega
        have hat : atI (xs.map V.int) ((n : Int) + 1 - 1) = some (.int xs[n]) := by
          rw [show (n : Int) + 1 - 1 = n by omega]
          unfold atI ixN
          rw [if_pos (by omega), if_pos (by rw [List.length_map]; omega)]
          show (xs.map V.int)[n]? = _
          rw [List.getElem?_map, List.getElem?_eq_getElem hn]
          rfl
        generalize xs[n] = x at hat
        refine ⟨_, rfl, r, _, 0, _, rfl, rfl, SqL.of f1, rfl, _, rfl, r, _, 1, _, rfl, rfl, SqL.of f1, rfl, _, _, rfl, rfl, sc, _, _, .int x, rfl, rfl, hsc, hat, ?_⟩
        refine ⟨_, rfl, r, _, 2, _, rfl, rfl, SqL.of f1, rfl, b, 48271, rfl, rfl, .inr ⟨by decide, by decide⟩, _, rfl, _, _, rfl, rfl, _, _, rfl, rfl, .inl ⟨_, rfl, _, _, rfl, rfl, (show (0 : Int) < 2147483647 by decide), _, rfl, r, _, 2, 2, rfl, rfl, f1, rfl, ?_⟩⟩
        rw [up1]
        generalize hz : upd H r (.lst (List.set [V.ref sc, .int ((n : Int) + 1), .int b, .int c] 2 (.int ((b * 48271 + x + 11) % 2147483647)))) = H2
        have f2 : H2 r = some (.lst [.ref sc, .int ((n : Int) + 1), .int ((b * 48271 + x + 11) % 2147483647), .int c]) := by rw [← hz]; exact upd_same
        have up2 : ∀ o, upd H2 r o = upd H r o := fun o => by rw [← hz, upd_upd]
        refine ⟨_, rfl, 10, 18, rfl, rfl, ⟨by decide, by decide, by decide⟩, x, _, rfl, rfl, _, rfl, ?_⟩
        by_cases cb : ((10 : Int) ^ (18 : Int).toNat) ≤ x
        · rw [decide_eq_true cb]
          refine iteT ⟨_, rfl, _, rfl, x, m, rfl, rfl, ⟨hm, hm2⟩, _, rfl, r, _, 3, 3, rfl, rfl, f2, rfl, ?_⟩
          rw [up2]
          refine ⟨_, rfl, .inl ⟨_, rfl, _, rfl, x, m, rfl, rfl, hm, ?_⟩⟩
          exact fin _ _ (x / m) x (by omega) (Int.ediv_nonneg (Int.le_trans (by decide) cb) (by omega))
        · rw [decide_eq_false cb]
          refine iteF ⟨_, rfl, r, _, 3, 3, rfl, rfl, f2, rfl, ?_⟩
          rw [up2]
          refine ⟨_, rfl, .inl ⟨_, rfl, _, rfl, x, m, rfl, rfl, hm, ?_⟩⟩
          exact fin _ _ 0 x (by omega) (by omega)
theorem Wr.upd {B H : Hp} {r D : Addr} {o : HO} (h : Wr K B H r) (n : D ≠ r) : Wr K B (upd H D o) r := by
  obtain ⟨hb, sc, xs, a, b, c, h1, h2, h3, h4⟩ := h
  exact ⟨hb, sc, xs, a, b, c, by rw [upd_ne n.symm]; exact h1, h2, h3, h4⟩
theorem Wr.ne {B H : Hp} {r D : Addr} (h : Wr K B H r) (n : H D = none) : D ≠ r := by
  obtain ⟨hb, sc, xs, a, b, c, h1, _⟩ := h
  exact (ne_of_none h1 n).symm
/-- one of the items -/
theorem at_some {ys : List V} {i : Int} (h0 : 0 ≤ i) (h1 : i < ys.length) : ∃ y, atI ys i = some y ∧ y ∈ ys := by
  obtain ⟨n, rfl⟩ : ∃ n : Nat, i = n := ⟨i.toNat, by omega⟩
  have hn : n < ys.length := by omega
  refine ⟨ys[n], ?_, List.getElem_mem hn⟩
  unfold atI ixN
  rw [if_pos (by omega), if_pos (by omega)]
  exact List.getElem?_eq_getElem hn
def sp_pick (K : PySem.W.Frag) : Sp := fun vs H Q _ => ∃ (B : Hp) (r l : Addr) (ys : List V), vs = [.ref r, .ref l] ∧ Wr K B H r ∧ SqL K B l ys ∧ 0 < ys.length ∧ ys.length ≤ 1000000 ∧ Same B H ∧ ∀ y B' H', Gr (fun z => z = r) B H B' H' → Wr K B' H' r → y ∈ ys → Q y H'
theorem ok_w_pick (T : Txt K mg) : FnOk P w K mg base CX0 2 (a_w_pick K) (fdOf K (a_w_pick K)) ["_law_row", "_law_some"] (sp_pick K) := by
  refine (f_w_pick T).ok sc_w_pick (fun vs H Q E h => ?_) (fun cdv A outer s0 H vs Q E hr h => ?_)
  · obtain ⟨B, r, l, ys, rfl, _⟩ := h
    rfl
  · obtain ⟨B, r, l, ys, rfl, hW, hl, h0, hz, sm, k⟩ := h
    refine ⟨_, (pss_one (ps_ret (pe_ix ix_list (pv 1) (pe_call (ok_w_taken T) (hr.mono (by decide)) (by rfl) (g_w_taken T) (f_w_taken T).kp (b_w_taken T) .nil pass0 (pa_cons (pv 0) (pa_cons (pe_callB call_len_seq (by rfl) (n_len T) (by decide +kernel) (pa_cons (pv 1) pa_nil)) pa_nil))) (fun _ _ => rfl)))), ?_⟩
    refine ⟨_, rfl, _, rfl, _, rfl, l, ys, rfl, .inl (sqL_same sm hl), ?_⟩
    refine ⟨B, r, ys.length, rfl, hW, by omega, by omega, sm, fun i B1 H1 g1 hW1 i0 i1 => ?_⟩
    obtain ⟨y, hy, hm⟩ := at_some i0 i1
    exact ⟨l, ys, i, y, rfl, rfl, sqL_same g1.sub (sqL_same g1.base hl), hy, k y _ _ g1 hW1 hm⟩
def sp_table (K : PySem.W.Frag) : Sp := fun vs H Q _ => ∃ (B : Hp) (r : Addr), vs = [.ref r, .bl false] ∧ Wr K B H r ∧ Same B H ∧ ∀ t acts B' H', Gr (fun z => z = r) B H B' H' → Wr K B' H' r → SqT K B' t acts → acts.length = 4 → acts.all okAct = true → Q (.ref t) H'
theorem ok_w_table (T : Txt K mg) : FnOk P w K mg base CX0 2 (a_w_table K) (fdOf K (a_w_table K)) ["_law_row", "_law_plain_here"] (sp_table K) := by
  refine (f_w_table T).ok sc_w_table (fun vs H Q E h => ?_) (fun cdv A outer s0 H vs Q E hr h => ?_)
  · obtain ⟨B, r, rfl, _⟩ := h
    rfl
  · obtain ⟨B, r, rfl, hW, sm, k⟩ := h
    refine ⟨_, (pss_cons (ps_set (i := 2) sc_w_table.nd rfl (Or.inl rfl) (pe_lst (pa_cons (pe_tup (pa_cons pe_str (pa_cons pe_str (pa_cons pe_str (pa_cons pe_str pa_nil))))) (pa_cons (pe_tup (pa_cons pe_str (pa_cons pe_str (pa_cons pe_str (pa_cons pe_str pa_nil))))) (pa_cons (pe_tup (pa_cons pe_str (pa_cons pe_str (pa_cons pe_str (pa_cons pe_str pa_nil))))) pa_nil))))) (pss_cons (ps_expr (pe_bm PySem.F.plainAttrs_list PySem.F.slot_list_append PySem.F.type_list_append mt_append (pv 2) (pa_cons (pe_tup (pa_cons pe_str (pa_cons pe_str (pa_cons pe_str (pa_cons pe_str pa_nil))))) pa_nil))) (pss_cons (ps_if (PW.pt (pw_or (pt_val (pv 1)) (pw_or1 (pt_cmpR op_eq (pe_call (ok_w_taken T) (hr.mono (by decide)) (by rfl) (g_w_taken T) (f_w_taken T).kp (b_w_taken T) .nil pass0 (pa_cons (pv 0) (pa_cons pe_int pa_nil))) pe_int (nomark _))))) (pss_one (ps_ret (pe_ix ix_list (pv 2) (pe_call (ok_w_taken T) (hr.mono (by decide)) (by rfl) (g_w_taken T) (f_w_taken T).kp (b_w_taken T) .nil pass0 (pa_cons (pv 0) (pa_cons pe_int pa_nil))) (fun _ _ => rfl)))) pss_nil) (pss_cons (ps_set (i := 3) sc_w_table.nd rfl (Or.inr rfl) (pe_lst (pa_cons pe_str (pa_cons pe_str (pa_cons pe_str (pa_cons pe_str (pa_cons pe_str (pa_cons pe_str (pa_cons pe_int (pa_cons pe_int (pa_cons pe_int pa_nil))))))))))) (pss_one (ps_ret (pe_callTy call_tuple_of (by rfl) (n_tuple T) (by decide +kernel) (pa_cons (pe_lc (own := [("_law_k", 4)]) (by rfl) sc_w_table.nd (pi_range1 (by rfl) (n_range T) (pa_cons pe_int pa_nil)) (blkOk_by (own := [("_law_k", 4)]) (N := N_w_table) (sc := defScope s_w_table) (by decide +kernel)) (fun _ _ _ _ _ => (pg_name (i := 4) sc_w_table.nd rfl (Or.inl rfl))) (fun _ _ _ _ _ => pts_nil) (fun _ _ _ _ _ => (pe_ix (ixB (r := fun K => rIxL K) K ix_list) (pv 3) (pe_call (ok_w_taken T) (hr.mono (by decide)) (by rfl) (g_w_taken T) (f_w_taken T).kp (b_w_taken T) .nil pass0 (pa_cons (pv 0) (pa_cons pe_int pa_nil))) (fun _ _ => rfl)))) pa_nil)))))))), ?_⟩
    refine ⟨line_le (show 4 ≤ 1000000 by decide), fun t1 ht1 => ⟨line_le (show 4 ≤ 1000000 by decide), fun t2 ht2 => ⟨line_le (show 4 ≤ 1000000 by decide), fun t3 ht3 => ⟨line_le (show 3 ≤ 1000000 by decide), fun p hp => ?_⟩⟩⟩⟩
    have l1 := Gr.lay (M := M0) (o := .tup [.str "ok", .str "bad", .str "ignore", .str "bad"]) sm ht1
    have l2 := Gr.lay (M := M0) (o := .tup [.str "ok", .str "die", .str "ignore", .str "die"]) l1.sub ht2
    have l3 := Gr.lay (M := M0) (o := .tup [.str "done", .str "ignore", .str "ignore", .str "ignore"]) l2.sub ht3
    have g3 := (l1.then0 l2).then0 l3
    have g4 := g3.then0 (Gr.hid (o := .lst [.ref t1, .ref t2, .ref t3]) g3.sub hp)
    refine ⟨_, rfl, .inl ⟨rfl, _, SqL.of upd_same⟩, line_le (show 4 ≤ 1000000 by decide), fun t4 ht4 => ?_⟩
    have l4 := Gr.lay (M := M0) (o := .tup [.str "ok", .str "ignore", .str "ignore", .str "ignore"]) g4.sub ht4
    have g5 := g4.then0 l4
    have npt : p ≠ t4 := by
      rintro rfl
      rw [upd_same] at ht4
      cases ht4
    refine ⟨p, [.ref t1, .ref t2, .ref t3], _, rfl, rfl, by rw [upd_ne npt]; exact upd_same, line_lt (show 3 ≤ 1000000 by decide), ?_⟩
    have hBp : upd (upd (upd (upd B t1 (.tup [.str "ok", .str "bad", .str "ignore", .str "bad"])) t2 (.tup [.str "ok", .str "die", .str "ignore", .str "die"])) t3 (.tup [.str "done", .str "ignore", .str "ignore", .str "ignore"])) t4 (.tup [.str "ok", .str "ignore", .str "ignore", .str "ignore"]) p = none := by
      rw [upd_ne npt]; exact g3.sub.free hp
    have g6 := g5.mut (o := .lst ([.ref t1, .ref t2, .ref t3] ++ [.ref t4])) hBp (.inl (g3.same.free hp))
    generalize hB6 : upd (upd (upd (upd B t1 (.tup [.str "ok", .str "bad", .str "ignore", .str "bad"])) t2 (.tup [.str "ok", .str "die", .str "ignore", .str "die"])) t3 (.tup [.str "done", .str "ignore", .str "ignore", .str "ignore"])) t4 (.tup [.str "ok", .str "ignore", .str "ignore", .str "ignore"]) = B6 at g6 hBp
    have hB4 : B6 t4 = some (.tup [.str "ok", .str "ignore", .str "ignore", .str "ignore"]) := by rw [← hB6]; exact upd_same
    have hB3 : B6 t3 = some (.tup [.str "done", .str "ignore", .str "ignore", .str "ignore"]) := by rw [← hB6]; exact l4.base _ _ upd_same
    have hB2 : B6 t2 = some (.tup [.str "ok", .str "die", .str "ignore", .str "die"]) := by rw [← hB6]; exact l4.base _ _ (l3.base _ _ upd_same)
    have hB1 : B6 t1 = some (.tup [.str "ok", .str "bad", .str "ignore", .str "bad"]) := by rw [← hB6]; exact l4.base _ _ (l3.base _ _ (l2.base _ _ upd_same))
    generalize hH6 : upd (upd (upd (upd (upd (upd H t1 (.tup [.str "ok", .str "bad", .str "ignore", .str "bad"])) t2 (.tup [.str "ok", .str "die", .str "ignore", .str "die"])) t3 (.tup [.str "done", .str "ignore", .str "ignore", .str "ignore"])) p (.lst [.ref t1, .ref t2, .ref t3])) t4 (.tup [.str "ok", .str "ignore", .str "ignore", .str "ignore"])) p (.lst ([.ref t1, .ref t2, .ref t3] ++ [.ref t4])) = H6 at g6
    have hp6 : H6 p = some (.lst [.ref t1, .ref t2, .ref t3, .ref t4]) := by rw [← hH6]; exact upd_same
    have hW6 := hW.go0 g6
    have npr : p ≠ r := hW.ne (g3.same.free hp)
    refine ⟨_, rfl, false, rfl, iteF ⟨_, rfl, B6, r, 2, rfl, hW6, by decide, by decide, g6.sub, fun i B7 H7 g7 hW7 i0 i1 => ⟨rfl, _, rfl, ?_⟩⟩⟩
    have hp7 : H7 p = some (.lst [.ref t1, .ref t2, .ref t3, .ref t4]) := g7.keep _ _ npr hp6
    have gr7 : Gr (fun z => z = r) B H B7 H7 := Gr.trans hW.mok g6.up g7
    by_cases c : V.int i = V.int 0
    · rw [decide_eq_true c]
      refine iteT ⟨_, rfl, _, rfl, B7, r, 4, rfl, hW7, by decide, by decide, g7.sub, fun j B8 H8 g8 hW8 j0 j1 => ?_⟩
      have hp8 : H8 p = some (.lst [.ref t1, .ref t2, .ref t3, .ref t4]) := g8.keep _ _ npr hp7
      obtain ⟨y, hy, hm⟩ := at_some (ys := [V.ref t1, .ref t2, .ref t3, .ref t4]) j0 j1
      have gr8 : Gr (fun z => z = r) B H B8 H8 := Gr.trans hW.mok gr7 g8
      have sT : ∀ t xs, B6 t = some (.tup xs) → SqT K B8 t xs := fun t xs e => .inl (.inl (g8.base _ _ (g7.base _ _ e)))
      refine ⟨p, _, j, y, rfl, rfl, SqL.of hp8, hy, ?_⟩
      simp only [List.mem_cons, List.not_mem_nil, or_false] at hm
      rcases hm with rfl | rfl | rfl | rfl
      · exact k _ _ _ _ gr8 hW8 (sT _ _ hB1) rfl (by decide)
      · exact k _ _ _ _ gr8 hW8 (sT _ _ hB2) rfl (by decide)
      · exact k _ _ _ _ gr8 hW8 (sT _ _ hB3) rfl (by decide)
      · exact k _ _ _ _ gr8 hW8 (sT _ _ hB4) rfl (by decide)
    · rw [decide_eq_false c]
      refine iteF ⟨line_le (show 9 ≤ 1000000 by decide), fun q hq => ?_⟩
      have l8 := Gr.lay (M := M0) (o := .lst [.str "ok", .str "bad", .str "die", .str "done", .str "ignore", .str "reset", .int 1, .int 2, .int 9]) g7.sub hq
      have hW8 := hW7.go0 l8
      refine ⟨4, rfl, by decide, by decide, fun D hDn => ?_⟩
      have nDr : D ≠ r := hW8.ne hDn
      refine lc_inv (walk_range (lo := 0) (n := 4)) (M := fun z => z = r) (B1 := upd B7 q _) (fun B' H' => Wr K B' H' r) (fun i ys B' => ys.length = i ∧ ys.all okAct = true) l8.sub hDn hW8.mok (line_lt (show 4 ≤ 1000000 by decide)) (fun _ _ _ => trivial) hW8 ⟨rfl, rfl⟩ (fun _ _ _ h => h.upd nDr) (fun _ _ _ _ _ h => h) (fun i x B' H' H2 hi g hW' y Ky Kn ky kn => ?_) (fun ys B' H' g hW' hbD hD hl hP => ?_)
      · obtain ⟨rfl, rfl⟩ := y
        refine ⟨rfl, ⟨_, rfl, _, rfl, B', r, 9, rfl, hW', by decide, by decide, g.sub, fun j B9 H9 g9 hW9 j0 j1 => ?_⟩⟩
        obtain ⟨y, hy, hm⟩ := at_some (ys := [V.str "ok", .str "bad", .str "die", .str "done", .str "ignore", .str "reset", .int 1, .int 2, .int 9]) j0 j1
        have hq9 := g9.sub _ _ (g9.base _ _ (g.base _ _ (upd_same (H := B7) (a := q) (o := .lst [.str "ok", .str "bad", .str "die", .str "done", .str "ignore", .str "reset", .int 1, .int 2, .int 9]))))
        refine ⟨q, _, j, y, rfl, rfl, SqL.of hq9, hy, ky y B9 H9 g9 hW9 (fun ys ⟨h1, h2⟩ => ⟨by rw [List.length_append, h1]; rfl, ?_⟩)⟩
        rw [List.all_append, h2]
        have : ∀ z ∈ ([V.str "ok", .str "bad", .str "die", .str "done", .str "ignore", .str "reset", .int 1, .int 2, .int 9] : List V), okAct z = true := List.all_eq_true.mp (by decide)
        show (true && (okAct y && true)) = true
        rw [this y hm]
        rfl
      · refine ⟨D, ys, rfl, .inl ⟨SqL.of hD, fun u hu => ?_⟩⟩
        have g9 : Gr (fun z => z = r) B H B' H' := Gr.trans hW.mok (Gr.trans hW.mok gr7 l8.up) g
        have g10 := Gr.trans hW.mok g9 (Gr.lay (o := .tup ys) g9.sub hu)
        exact k u ys _ _ g10 (hW'.go (Gr.lay (M := M0) (o := .tup ys) g9.sub hu) (fun z => z)) (.inl (.inl upd_same)) hP.1 hP.2
end
end Lg
/-! D23 -/
set_option maxHeartbeats 4000000
namespace Lg
open PySem L2
section
variable {P : Program} {w : World} {K : PySem.W.Frag} {mg : Str → Option Value} {base : Heap}
theorem catL_rep {H B : Hp} {Rs Ss : List Rp} {x y : V} {Q : VK} (sm : Same B H) (ha : RLst Rs x B) (hb : RLst Ss y B) (mr : ∀ R ∈ Rs ++ Ss, Mono R) (hz : Rs.length + Ss.length ≤ 1000000) (k : ∀ v B' H', Gr M0 B H B' H' → RLst (Rs ++ Ss) v B' → Q v H') : rCat x y H Q := by
  obtain ⟨a, xs, rfl, ha, hA⟩ := ha
  obtain ⟨b, ys, rfl, hb, hB⟩ := hb
  refine ⟨a, b, xs, ys, rfl, rfl, sm _ _ ha, sm _ _ hb, line_le (by rw [← hA.length, ← hB.length]; exact hz), fun p hp => ?_⟩
  have l := Gr.lay (M := M0) (o := .lst (xs ++ ys)) sm hp
  exact k _ _ _ l ⟨p, _, rfl, upd_same, (hA.app hB).mono l.base mr⟩
theorem enL_ty {e : En} {v : V} {B H : Hp} (h : rEnL K e v B) (sm : Same B H) : TyX K H v (.type (if isS e = true then "list" else "tuple")) := by
  cases e with
  | r x =>
    obtain ⟨a, t, rfl, h1, _⟩ := h
    exact tyTup (sqT_same sm h1)
  | s xs =>
    obtain ⟨a, ys, rfl, h1, _⟩ := h
    exact tyLst (sm _ _ h1)
/-- an inner stack as a stack of rules -/
theorem plain_flat (xs : List Ru) : RLst (xs.map (rRuL K)) = rPlain K (xs.map En.r) := by
  unfold rPlain
  rw [List.map_map]
  rfl
def sp_rules (K : PySem.W.Frag) (okE : En → Prop) : Sp := fun vs H Q _ => ∃ (B : Hp) (v : V) (es : List En), vs = [v] ∧ rPlain K es v B ∧ (∀ e ∈ es, okE e) ∧ es.length ≤ 1000 ∧ (rulesOf es).length ≤ 1000 ∧ Same B H ∧ Ret B H (RLst ((rulesOf es).map (rRuL K))) Q
theorem ok_rules_gen (T : Txt K mg) {k : Nat} (okE : En → Prop) {sub : Sp} (F : FnOk P w K mg base CX0 k (a_w_rules K) (fdOf K (a_w_rules K)) ["_law_plain_here"] sub)
    (hsub : ∀ xs, okE (.s xs) → ∀ vs H Q E, sp_rules K (fun e => ∃ x, e = .r x) vs H Q E → sub vs H Q E) :
    FnOk P w K mg base CX0 (k + 1) (a_w_rules K) (fdOf K (a_w_rules K)) ["_law_plain_here"] (sp_rules K okE) := by
  refine (f_w_rules T).ok sc_w_rules (fun vs H Q E h => ?_) (fun cdv A outer s0 H vs Q E hr h => ?_)
  · obtain ⟨B, v, es, rfl, _⟩ := h
    rfl
  · obtain ⟨B, v, es, rfl, ⟨p, ws, rfl, hp, hP⟩, hok, hl, hrl, sm, kk⟩ := h
    have ok_w_rules := fun (T : Txt K mg) => F
    refine ⟨_, (pss_cons (ps_set (i := 1) sc_w_rules.nd rfl (Or.inl rfl) (pe_lst pa_nil)) (pss_cons (ps_for PassesOwn.never rfl (pi_list (pv 0)) (pg_name (i := 2) sc_w_rules.nd rfl (Or.inl rfl)) (pss_one (ps_set (i := 1) sc_w_rules.nd rfl (Or.inl rfl) (pe_op op_cat (pv 1) (pe_ifExp (pt_val (pe_callB call_isi (by rfl) (n_isinstance T) (by decide +kernel) (pa_cons (pv 2) (pa_cons (pe_ty (n := "list") (by rfl) (n_list T) (by decide +kernel)) pa_nil)))) (pe_call (ok_w_rules T) hr (by rfl) (g_w_rules T) (f_w_rules T).kp (b_w_rules T) .nil pass0 (pa_cons (pv 2) pa_nil)) (pe_lst (pa_cons (pv 2) pa_nil))))))) (pss_one (ps_ret (pv 1))))), ?_⟩
    refine ⟨line_le (show 0 ≤ 1000000 by decide), fun q hq => ?_⟩
    have l0 := Gr.lay (M := M0) (o := .lst []) sm hq
    refine ⟨_, rfl, p, rfl, ⟨ws, SqL.of (l0.sub _ _ (l0.base _ _ hp))⟩, ?_⟩
    have hwl : ws.length = es.length := by have := hP.length; rw [List.length_map] at this; exact this.symm
    refine for_it (walk_list (K := K) (a := p) (xs := ws)) (fun i σ H' => ∃ B' fv x, Gr M0 B H B' H' ∧ RLst ((rulesOf (es.take i)).map (rRuL K)) fv B' ∧ σ = [some (.ref p), some fv, x]) ⟨_, _, none, l0, ⟨q, [], rfl, upd_same, trivial⟩, rfl⟩ (fun i σ H' hi pv => ?_) (fun i x σ H' H2 hi pv y => ?_) (fun σ H' pv => ?_)
    · obtain ⟨B', fv, x, g, _⟩ := pv
      exact sqL_B g hp
    · obtain ⟨B', fv, z, g, hf, rfl⟩ := pv
      obtain ⟨rfl, hx⟩ := y
      obtain ⟨R, hR, hxR⟩ := hP.at_ hx
      obtain ⟨e, he, rfl⟩ : ∃ e, es[i]? = some e ∧ R = rEnL K e := by
        rw [List.getElem?_map] at hR
        cases c : es[i]? with
        | none => rw [c] at hR; cases hR
        | some e => rw [c] at hR; exact ⟨e, rfl, (Option.some.inj hR).symm⟩
      have hxe := mono_enL (K := K) e _ _ _ g.base hxR
      have htk := rulesOf_take he
      have hle : (rulesOf (es.take (i + 1))).length ≤ 1000 := Nat.le_trans (rulesOf_take_le es (i + 1)) hrl
      have fin : ∀ {B3 H3 : Hp} {y : V}, Gr M0 B' H2 B3 H3 → RLst (e.rules.map (rRuL K)) y B3 → rCat fv y H3 (fun v H4 => ∃ B4 fv' x', Gr M0 B H B4 H4 ∧ RLst ((rulesOf (es.take (i + 1))).map (rRuL K)) fv' B4 ∧ [some (.ref p), some v, some x] = [some (.ref p), some fv', x']) := by
        intro B3 H3 y g3 hy
        refine catL_rep g3.sub (mono_lst (mem_map_mono mono_ruL) _ _ _ g3.base hf) hy (fun R hR => ?_) (by rw [List.length_map, List.length_map, ← List.length_append, ← htk]; omega) (fun v B4 H4 g4 hv => ⟨B4, v, some x, (g.then0 g3).then0 g4, ?_, rfl⟩)
        · rcases List.mem_append.mp hR with h | h
          · exact mem_map_mono mono_ruL R h
          · exact mem_map_mono mono_ruL R h
        · rw [htk, List.map_append]
          exact hv
      have ty := enL_ty hxe g.sub
      cases e with
      | r x0 =>
        refine ⟨_, rfl, _, rfl, _, .ty _, _, _, false, rfl, .ty _, (show TyX K H2 x (.type "tuple") from ty), kit_ty (by decide +kernel), ⟨false, rfl, iteF ?_⟩⟩
        refine ⟨_, rfl, line_le (show 1 ≤ 1000000 by decide), fun n hn => ?_⟩
        have l := Gr.lay (M := M0) (o := .lst [x]) g.sub hn
        exact fin l ⟨n, [x], rfl, upd_same, mono_ruL x0 _ _ _ l.base hxe, trivial⟩
      | s xs =>
        have hsx : rPlain K (xs.map En.r) x B' := by
          rw [← plain_flat]
          exact hxe
        have hrx : rulesOf (xs.map En.r) = xs := rulesOf_flat xs
        have hxl : xs.length ≤ 1000 := by
          have : (rulesOf (es.take (i + 1))).length = (rulesOf (es.take i)).length + xs.length := by rw [htk, List.length_append]; rfl
          omega
        refine ⟨_, rfl, _, rfl, _, .ty _, _, _, true, rfl, .ty _, (show TyX K H2 x (.type "list") from ty), kit_ty (by decide +kernel), ⟨true, rfl, iteT ?_⟩⟩
        refine ⟨_, rfl, hsub xs (hok _ (List.mem_of_getElem? he)) _ _ _ _ ⟨B', x, xs.map En.r, rfl, hsx, fun e' h' => ?_, by rw [List.length_map]; exact hxl, by rw [hrx]; exact hxl, g.sub, fun v B3 H3 g3 hv => ?_⟩⟩
        · obtain ⟨x0, _, rfl⟩ := List.mem_map.mp h'
          exact ⟨x0, rfl⟩
        · rw [hrx] at hv
          exact fin g3 hv
    · obtain ⟨B', fv, x, g, hf, rfl⟩ := pv
      rw [hwl, List.take_length] at hf
      exact ⟨_, rfl, kk _ _ _ g hf⟩
theorem ok_rules_flat (T : Txt K mg) : FnOk P w K mg base CX0 1 (a_w_rules K) (fdOf K (a_w_rules K)) ["_law_plain_here"] (sp_rules K fun e => ∃ x, e = .r x) :=
  ok_rules_gen T (k := 0) (sub := fun _ _ _ _ => False) _ ⟨fun _ _ _ _ h => h.elim, fun _ _ _ _ _ _ _ _ _ _ _ _ _ h => h.elim⟩ fun xs h => by
    obtain ⟨x, e⟩ := h
    cases e
theorem ok_w_rules (T : Txt K mg) : FnOk P w K mg base CX0 2 (a_w_rules K) (fdOf K (a_w_rules K)) ["_law_plain_here"] (sp_rules K fun _ => True) :=
  ok_rules_gen T (k := 1) (fun _ => True) (ok_rules_flat T) fun xs _ vs H Q E h => h
def sp_modules (K : PySem.W.Frag) : Sp := fun vs H Q _ => ∃ (B : Hp) (v : V) (es : List En), vs = [v] ∧ rPlain K es v B ∧ es.length ≤ 1000 ∧ (rulesOf es).length ≤ 1000 ∧ Same B H ∧ Ret B H (fun v B => ∃ p, v = .ref p ∧ B p = some (.lst ((modsOf es).map V.str))) Q
theorem ok_w_modules (T : Txt K mg) : FnOk P w K mg base CX0 3 (a_w_modules K) (fdOf K (a_w_modules K)) ["_law_plain_here"] (sp_modules K) := by
  refine (f_w_modules T).ok sc_w_modules (fun vs H Q E h => ?_) (fun cdv A outer s0 H vs Q E hr h => ?_)
  · obtain ⟨B, v, es, rfl, _⟩ := h
    rfl
  · obtain ⟨B, v, es, rfl, hv, hl, hrl, sm, k⟩ := h
    refine ⟨_, (pss_one (ps_ret (pe_callB (cr_sortSet rfl) (by rfl) (n_sorted T) (by decide +kernel) (pa_cons (pe_callTy (cr_setS rfl) (by rfl) (n_set T) (by decide +kernel) (pa_cons (pe_lc (own := [("_law_rule", 1)]) (by rfl) sc_w_modules.nd (pi_list (pe_call (ok_w_rules T) (hr.mono (by decide)) (by rfl) (g_w_rules T) (f_w_rules T).kp (b_w_rules T) .nil pass0 (pa_cons (pv 0) pa_nil))) (blkOk_by (own := [("_law_rule", 1)]) (N := N_w_modules) (sc := defScope s_w_modules) (by decide +kernel)) (fun _ _ _ _ _ => (pg_name (i := 1) sc_w_modules.nd rfl (Or.inl rfl))) (fun _ _ _ _ _ => pts_nil) (fun _ _ _ _ _ => (pe_ix (ixB (r := fun K => rIxT K) K ix_tup) (pv 1) pe_int (fun _ _ => rfl)))) pa_nil)) pa_nil)))), ?_⟩
    refine ⟨_, rfl, B, v, es, rfl, hv, fun _ _ => trivial, hl, hrl, sm, fun rv B1 H1 g1 hrv => ?_⟩
    obtain ⟨p, ys, rfl, hp, hP⟩ := hrv
    refine ⟨p, rfl, ⟨ys, SqL.of (g1.sub _ _ hp)⟩, fun D hDn => ?_⟩
    refine lc_dat (walk_list (K := K) (a := p) (xs := ys)) (M := M0) (B1 := B1) (rulesOf es) (fun _ => true) (rRuL K) (fun x => RV (.str x.1)) mono_ruL (fun _ => mono_v _) hP rfl g1.sub hDn mok0 (by omega) (fun B3 H3 g => sqL_B g hp) (fun r x B3 H3 hr2 hx g Ky Kn ky kn => ?_) (fun zs B3 H3 g hz hP2 => ?_)
    · obtain ⟨t, u, rfl, ht, hu⟩ := hx
      exact ⟨rfl, _, rfl, t, _, 0, _, rfl, rfl, sqT_same g.sub ht, rfl, ky rfl _ _ _ (Gr.refl g.sub) rfl⟩
    · rw [filter_all] at hP2
      have e := PairR.of_consts (fun x : Ru => V.str x.1) hP2
      have e2 : zs = ((rulesOf es).map (·.1)).map V.str := by rw [e, List.map_map]; rfl
      refine ⟨D, (rulesOf es).map (·.1), rfl, .inl (SqL.of (by rw [← e2]; exact g.sub _ _ hz)), by rw [List.length_map]; omega, fun q hq => ?_⟩
      have gq := (g1.then0 g).then0 (Gr.hid (o := SetSO w q ((rulesOf es).map (·.1))) g.sub hq)
      refine ⟨q, _, rfl, upd_same, by rw [List.length_map]; omega, fun u hu => ?_⟩
      have l := Gr.lay (M := M0) (o := .lst ((sortS ((rulesOf es).map (·.1))).map V.str)) gq.sub hu
      exact k _ _ _ (gq.then0 l) ⟨u, rfl, upd_same⟩
theorem rStack_flat (xs : List Ru) : rStack K (xs.map En.r) = rFlat K xs := by
  have e1 : (xs.map En.r).map (rEn K) = xs.map (rRule K) := by rw [List.map_map]; rfl
  have e2 := rulesOf_flat xs
  have e3 : modsOf (xs.map En.r) = modsR xs := by unfold modsOf modsR; rw [e2]
  have e4 : ∀ (xs : List Ru) (d : Int), 1 ≤ d → (xs.map En.r).foldl (fun d e => if depthE e > d then depthE e else d) d = d := by
    intro xs
    induction xs with
    | nil => intro d _; rfl
    | cons x xs ih =>
      intro d hd
      show (xs.map En.r).foldl _ (if (1 : Int) > d then 1 else d) = d
      rw [if_neg (by omega)]
      exact ih d hd
  unfold rStack rFlat
  rw [e1, e2, e3, show depthOf (xs.map En.r) = 1 from e4 xs 1 (by decide)]
theorem modsOf_sub {es fs : List En} (h : ∀ x ∈ rulesOf es, x ∈ rulesOf fs) : (modsOf es).length ≤ (modsOf fs).length := by
  refine nodup_le _ _ (nodup_sortS _) fun x hx => ?_
  unfold modsOf at hx ⊢
  rw [mem_sortS] at hx ⊢
  obtain ⟨r, hr, rfl⟩ := List.mem_map.mp hx
  exact List.mem_map_of_mem (h r hr)
theorem OkS.sub {es fs : List En} (h : OkS fs) (hl : es.length ≤ 12) (hr : (rulesOf es).length ≤ (rulesOf fs).length) (hs : ∀ x ∈ rulesOf es, x ∈ rulesOf fs) : OkS es :=
  ⟨hl, Nat.le_trans hr h.rl, Nat.le_trans (modsOf_sub hs) h.ml, fun x hx => h.ru x (hs x hx)⟩
theorem OkS.take {es : List En} (h : OkS es) (i : Nat) : OkS (es.take i) := by
  refine h.sub (by rw [List.length_take]; have := h.len; omega) (rulesOf_take_le es i) fun x hx => ?_
  have e : rulesOf es = rulesOf (es.take i) ++ rulesOf (es.drop i) := by rw [← rulesOf_append, List.take_append_drop]
  rw [e]
  exact List.mem_append_left _ hx
theorem OkS.at_ {es : List En} (h : OkS es) {i : Nat} {e : En} (he : es[i]? = some e) : OkS [e] := by
  have e1 : rulesOf [e] = e.rules := List.append_nil _
  have e2 := rulesOf_take he
  refine h.sub (show 1 ≤ 12 by decide) ?_ fun x hx => ?_
  · have := rulesOf_take_le es (i + 1)
    rw [e2, List.length_append] at this
    rw [e1]
    omega
  · have e3 : rulesOf es = rulesOf (es.take (i + 1)) ++ rulesOf (es.drop (i + 1)) := by rw [← rulesOf_append, List.take_append_drop]
    rw [e1] at hx
    rw [e3, e2]
    exact List.mem_append_left _ (List.mem_append_right _ hx)
def sp_made (K : PySem.W.Frag) (okE : En → Prop) : Sp := fun vs H Q _ => ∃ (B : Hp) (v : V) (es : List En), vs = [v] ∧ rPlain K es v B ∧ (∀ e ∈ es, okE e) ∧ OkS es ∧ Same B H ∧ Ret B H (rStack K es) Q
theorem ok_made_gen (T : Txt K mg) {k : Nat} (okE : En → Prop) {sub : Sp} (F : FnOk P w K mg base CX0 (k + 6) (a_w_made K) (fdOf K (a_w_made K)) ["_law_plain_here"] sub)
    (hsub : ∀ xs, okE (.s xs) → ∀ vs H Q E, sp_made K (fun e => ∃ x, e = .r x) vs H Q E → sub vs H Q E) :
    FnOk P w K mg base CX0 (k + 7) (a_w_made K) (fdOf K (a_w_made K)) ["_law_plain_here"] (sp_made K okE) := by
  refine (f_w_made T).ok sc_w_made (fun vs H Q E h => ?_) (fun cdv A outer s0 H vs Q E hr h => ?_)
  · obtain ⟨B, v, es, rfl, _⟩ := h
    rfl
  · obtain ⟨B, v, es, rfl, ⟨p, ws, rfl, hp, hP⟩, hok, ok, sm, kk⟩ := h
    have ok_w_made := fun (T : Txt K mg) => F
    refine ⟨_, (pss_cons (ps_set (i := 1) sc_w_made.nd rfl (Or.inl rfl) (pe_makeR0 (mk_Stack T) (ok_Stack_init T) (hr.mono (by omega)) (by rfl) (g_Stack T) pass0)) (pss_cons (ps_for PassesOwn.never rfl (pi_list (pv 0)) (pg_name (i := 2) sc_w_made.nd rfl (Or.inl rfl)) (pss_one (ps_set (i := 1) sc_w_made.nd rfl (Or.inl rfl) (pe_op (op_addO (sf_Stack T) (fi_Stack_add T) (fn_Stack_add T) ((ok_Stack_add T).raw (b_Stack_add T) .nil) (hr.mono (by omega)) pass0) (pv 1) (StX.pe_makeR (mk_Stack T) (ok_Stack_init T) (hr.mono (by omega)) (by rfl) (g_Stack T) pass0 (pa_cons (pe_ifExp (pt_val (pe_callB call_isi (by rfl) (n_isinstance T) (by decide +kernel) (pa_cons (pv 2) (pa_cons (pe_ty (n := "list") (by rfl) (n_list T) (by decide +kernel)) pa_nil)))) (pe_call (ok_w_made T) (hr.mono (by omega)) (by rfl) (g_w_made T) (f_w_made T).kp (b_w_made T) .nil pass0 (pa_cons (pv 2) pa_nil)) (pe_make (mk_Rule T) (ok_Rule_init T) (hr.mono (by omega)) (by rfl) (g_Rule T) (b_Rule_init T) .nil pass0 (pa_cons (pe_ix ix_tup (pv 2) pe_int (fun _ _ => rfl)) (pa_cons (pe_ix ix_tup (pv 2) pe_int (fun _ _ => rfl)) pa_nil)))) pa_nil)))))) (pss_one (ps_ret (pv 1))))), ?_⟩
    have h12 := ok.len
    dsimp only [tNil, StX.tMakeR, tSeq, tAsg, gName]
    refine mk_stack (B := B) (es := []) trivial ⟨by decide, by decide, by decide, fun _ h => nomatch h⟩ sm (fun v0 B0 H0 g0 hv0 => ?_)
    refine ⟨_, rfl, p, rfl, ⟨ws, SqL.of (g0.sub _ _ (g0.base _ _ hp))⟩, ?_⟩
    have hwl : ws.length = es.length := by have := hP.length; rw [List.length_map] at this; exact this.symm
    refine for_it (walk_list (K := K) (a := p) (xs := ws)) (fun i σ H' => ∃ B' fv x, Gr M0 B H B' H' ∧ rStack K (es.take i) fv B' ∧ σ = [some (.ref p), some fv, x]) ⟨_, _, none, g0, hv0, rfl⟩ (fun i σ H' hi pv => ?_) (fun i x σ H' H2 hi pv y => ?_) (fun σ H' pv => ?_)
    · obtain ⟨B', fv, x, g, _⟩ := pv
      exact sqL_B g hp
    · obtain ⟨B', fv, z, g, hf, rfl⟩ := pv
      obtain ⟨rfl, hx⟩ := y
      obtain ⟨R, hR, hxR⟩ := hP.at_ hx
      obtain ⟨e, he, rfl⟩ : ∃ e, es[i]? = some e ∧ R = rEnL K e := by
        rw [List.getElem?_map] at hR
        cases c : es[i]? with
        | none => rw [c] at hR; cases hR
        | some e => rw [c] at hR; exact ⟨e, rfl, (Option.some.inj hR).symm⟩
      have hxe := mono_enL (K := K) e _ _ _ g.base hxR
      have ty := enL_ty hxe g.sub
      have okT : OkS (es.take i ++ [e]) := by
        have := ok.take (i + 1)
        rwa [List.take_succ, he] at this
      have ok1 : OkS [e] := ok.at_ he
      have fin : ∀ {B3 H3 : Hp} {y : V}, Gr M0 B' H2 B3 H3 → rEn K e y B3 → ∀ a dx, H3 a = none → H3 dx = none → dx ≠ a → sp_Stack_init K [.ref a, y] (upd (upd H3 dx (.own a)) a (.ins (c_Stack K) dx [])) (fun v H4 => v = .non ∧ rAddO (c_Stack K) (fun vs H Q E => sp_Stack_add K (vs ++ []) H Q E) E0 fv (.ref a) H4 (fun v H4 => ∃ B4 fv' x', Gr M0 B H B4 H4 ∧ rStack K (es.take (i + 1)) fv' B4 ∧ [some (.ref p), some v, some x] = [some (.ref p), some fv', x'])) E0 := by
        intro B3 H3 y g3 hy
        refine mk_stack (B := B3) (es := [e]) ⟨hy, trivial⟩ ok1 g3.sub (fun a B4 H4 g4 ha => ?_)
        have g5 := g3.then0 g4
        have hf5 := mono_stack (K := K) _ _ _ _ g5.base hf
        obtain ⟨fa, fdx, fp, fs, fn, fvs, fws, rfl, hfI, _⟩ := id hf5
        obtain ⟨qa, qdx, qp, qs, qn, qvs, qws, eqa, hqI, _⟩ := id ha
        cases eqa
        refine ⟨fa, a, fdx, qdx, _, _, rfl, rfl, g4.sub _ _ hfI, g4.sub _ _ hqI, B4, .ref fa, .ref a, es.take i, [e], rfl, hf5, ha, okT, g4.sub, fun v B6 H6 g6 hv => ⟨B6, v, some x, (g.then0 g5).then0 g6, ?_, rfl⟩⟩
        rw [List.take_succ, he]
        exact hv
      cases e with
      | r x0 =>
        obtain ⟨a, t, rfl, h1, h2⟩ := hxe
        have oku := ok_parts (ok1.ru x0 (by simp [rulesOf, En.rules]))
        refine ⟨_, rfl, _, rfl, _, .ty _, _, _, false, rfl, .ty _, (show TyX K H2 (.ref a) (.type "tuple") from ty), kit_ty (by decide +kernel), ⟨false, rfl, iteF ?_⟩⟩
        refine ⟨_, rfl, a, _, 0, _, rfl, rfl, sqT_same g.sub h1, rfl, _, rfl, a, _, 1, _, rfl, rfl, sqT_same g.sub h1, rfl, ?_⟩
        dsimp only [tNil]
        exact mk_rule (B := B') oku.1 h2 oku.2.1 oku.2.2 g.sub (fun ra B3 H3 g3 hr3 => fin g3 hr3)
      | s xs =>
        refine ⟨_, rfl, _, rfl, _, .ty _, _, _, true, rfl, .ty _, (show TyX K H2 x (.type "list") from ty), kit_ty (by decide +kernel), ⟨true, rfl, iteT ?_⟩⟩
        have hsx : rPlain K (xs.map En.r) x B' := by
          rw [← plain_flat]
          exact hxe
        have hrx : rulesOf (xs.map En.r) = xs := rulesOf_flat xs
        have hr1 : rulesOf [En.s xs] = xs := List.append_nil _
        have okx : OkS (xs.map En.r) := ok1.sub (by rw [List.length_map, ← hr1]; exact ok1.rl) (by rw [hrx, hr1]; exact Nat.le_refl _) (fun z hz => by rw [hrx] at hz; rw [hr1]; exact hz)
        refine ⟨_, rfl, hsub xs (hok _ (List.mem_of_getElem? he)) _ _ _ _ ⟨B', x, xs.map En.r, rfl, hsx, fun e' h' => ?_, okx, g.sub, fun v B3 H3 g3 hv => ?_⟩⟩
        · obtain ⟨x0, _, rfl⟩ := List.mem_map.mp h'
          exact ⟨x0, rfl⟩
        · rw [rStack_flat] at hv
          exact fin g3 hv
    · obtain ⟨B', fv, x, g, hf, rfl⟩ := pv
      rw [hwl, List.take_length] at hf
      exact ⟨_, rfl, kk _ _ _ g hf⟩
theorem ok_made_flat (T : Txt K mg) : FnOk P w K mg base CX0 7 (a_w_made K) (fdOf K (a_w_made K)) ["_law_plain_here"] (sp_made K fun e => ∃ x, e = .r x) :=
  ok_made_gen T (k := 0) (sub := fun _ _ _ _ => False) _ ⟨fun _ _ _ _ h => h.elim, fun _ _ _ _ _ _ _ _ _ _ _ _ _ h => h.elim⟩ fun xs h => by
    obtain ⟨x, e⟩ := h
    cases e
theorem ok_w_made (T : Txt K mg) : FnOk P w K mg base CX0 8 (a_w_made K) (fdOf K (a_w_made K)) ["_law_plain_here"] (sp_made K fun _ => True) :=
  ok_made_gen T (k := 1) (fun _ => True) (ok_made_flat T) fun xs _ vs H Q E h => h
end
end Lg
/-! D24 -/
set_option maxHeartbeats 4000000
namespace Lg
open PySem L2
section
variable {P : Program} {w : World} {K : PySem.W.Frag} {mg : Str → Option Value} {base : Heap}
theorem ok_w_acted (T : Txt K mg) : FnOk P w K mg base CX0 1 (a_w_acted K) (fdOf K (a_w_acted K)) ["_law_action", "_law_mark", "_law_begin", "_law_number"] (sp_marked K) := by
  refine (f_w_acted T).ok sc_w_acted (fun vs H Q E h => ?_) (fun cdv A outer s H vs Q E hr h => ?_)
  · obtain ⟨B, act, mv, bv, m, b, n, rfl, _⟩ := h
    rfl
  · obtain ⟨B, act, mv, bv, m, b, n, rfl, ha, hm, hb, sm, k⟩ := h
    refine ⟨_, (pss_cons (ps_if (pt_cmpR op_in_seq (pv 0) (pe_tup (pa_cons pe_str (pa_cons pe_str pa_nil))) (by rfl)) (pss_one (ps_ret (pe_ifExp (pt_cmpR op_eq (pe_ix ix_seq (pv 1) pe_int (fun _ _ => rfl)) pe_str (nomark _)) (pe_tup (pa_cons pe_str (pa_cons pe_non pa_nil))) (pv 1)))) pss_nil) (pss_cons (ps_if (pt_cmpR op_in_seq (pv 0) (pe_tup (pa_cons pe_str (pa_cons pe_str pa_nil))) (by rfl)) (pss_one (ps_ret (pe_ifExp (pt_cmpR op_eq (pe_ix ix_seq (pv 1) pe_int (fun _ _ => rfl)) pe_str (nomark _)) (pv 1) (pe_tup (pa_cons pe_str (pa_cons (pv 3) pa_nil)))))) pss_nil) (pss_one (ps_ret (pe_ifExp (pt_cmpR op_eq (pv 0) pe_str (nomark _)) (pv 2) (pv 1)))))), ?_⟩
    obtain ⟨p2, rfl, hp0⟩ := id hm
    refine ⟨_, rfl, line_le (show 2 ≤ 1000000 by decide), fun p hp => ⟨_, _, rfl, .inr (.inl (.inl upd_same)), flat_act ha, rfl, ?_⟩⟩
    rw [in_two ha]
    have g1 : Gr M0 B H B (upd H p (.tup [.str "ok", .str "done"])) := Gr.hid sm hp
    have hp1 := sqT_same (sm.trans g1.same) hp0
    unfold markd at k
    cases c1 : (isW act "ok" || isW act "done") with
    | true =>
      rw [if_pos c1] at k
      refine ⟨true, rfl, iteT ?_⟩
      cases m with
      | none =>
        refine ⟨_, rfl, .inr (.inl ⟨p2, _, 0, _, rfl, rfl, hp1, rfl, rfl, true, rfl, iteT ⟨line_le (show 2 ≤ 1000000 by decide), fun r hr => ?_⟩⟩)⟩
        exact k _ _ _ (g1.then0 (Gr.lay g1.sub hr)) ⟨r, rfl, .inl (.inl upd_same)⟩
      | good => exact ⟨_, rfl, .inr (.inl ⟨p2, _, 0, _, rfl, rfl, hp1, rfl, rfl, false, rfl, iteF ⟨_, rfl, k _ _ _ g1 hm⟩⟩)⟩
      | bad j => exact ⟨_, rfl, .inr (.inl ⟨p2, _, 0, _, rfl, rfl, hp1, rfl, rfl, false, rfl, iteF ⟨_, rfl, k _ _ _ g1 hm⟩⟩)⟩
    | false =>
      rw [if_neg (by rw [c1]; decide)] at k
      refine ⟨false, rfl, iteF ⟨_, rfl, line_le (show 2 ≤ 1000000 by decide), fun q hq => ⟨_, _, rfl, .inr (.inl (.inl upd_same)), flat_act ha, rfl, ?_⟩⟩⟩
      rw [in_two ha]
      have g2 := g1.then0 (Gr.hid (o := .tup [.str "bad", .str "die"]) g1.sub hq)
      have hp3 := sqT_same (sm.trans g2.same) hp0
      cases c2 : (isW act "bad" || isW act "die") with
      | true =>
        rw [if_pos c2] at k
        refine ⟨true, rfl, iteT ?_⟩
        cases m with
        | none =>
          refine ⟨_, rfl, .inr (.inl ⟨p2, _, 0, _, rfl, rfl, hp3, rfl, rfl, ?_⟩)⟩
          refine ⟨false, rfl, iteF ⟨_, rfl, line_le (show 2 ≤ 1000000 by decide), fun r hr => ?_⟩⟩
          exact k _ _ _ (g2.then0 (Gr.lay g2.sub hr)) ⟨r, rfl, .inl (.inl upd_same)⟩
        | good =>
          refine ⟨_, rfl, .inr (.inl ⟨p2, _, 0, _, rfl, rfl, hp3, rfl, rfl, ?_⟩)⟩
          refine ⟨false, rfl, iteF ⟨_, rfl, line_le (show 2 ≤ 1000000 by decide), fun r hr => ?_⟩⟩
          exact k _ _ _ (g2.then0 (Gr.lay g2.sub hr)) ⟨r, rfl, .inl (.inl upd_same)⟩
        | bad j =>
          refine ⟨_, rfl, .inr (.inl ⟨p2, _, 0, _, rfl, rfl, hp3, rfl, rfl, ?_⟩)⟩
          exact ⟨true, rfl, iteT ⟨_, rfl, k _ _ _ g2 hm⟩⟩
      | false =>
        rw [if_neg (by rw [c2]; decide)] at k
        refine ⟨false, rfl, iteF ⟨_, rfl, scal_act ha, ?_⟩⟩
        cases c3 : isW act "reset" with
        | true =>
          rw [if_pos c3] at k
          exact ⟨true, congrArg V.bl c3, iteT ⟨_, rfl, k _ _ _ g2 hb⟩⟩
        | false =>
          rw [if_neg (by rw [c3]; decide)] at k
          exact ⟨false, congrArg V.bl c3, iteF ⟨_, rfl, k _ _ _ g2 hm⟩⟩
theorem runE_s0 (a : Ans) (b : Mk0) (xs : List Ru) (es : List En) (n : Int) (m : Mk0) : runE a b (.s xs :: es) 0 n m = runE a b es 0 (n + xs.length) (runR a m xs 0 n m) := by rw [runE]
/-- a mark, a list -/
def rRan (K : PySem.W.Frag) (m : Mk0) (n : Nat) : Rp := fun v B => ∃ t mv l ys, v = .ref t ∧ SqT K B t [mv, .ref l] ∧ rMark K m mv B ∧ B l = some (.lst ys) ∧ ys.length ≤ n
def sp_ran (K : PySem.W.Frag) (okE : En → Prop) : Sp := fun vs H Q _ => ∃ (B : Hp) (v mv : V) (d : Addr) (n : Int) (es : List En) (ans : Ans) (m : Mk0),
  vs = [v, .ref d, .int n, mv] ∧ rPlain K es v B ∧ B d = some (.dK (ansV ans)) ∧ (∀ e ∈ es, okE e) ∧ es.length ≤ 12 ∧ (rulesOf es).length ≤ 12 ∧ (∀ x ∈ rulesOf es, okRu x = true) ∧ Cov ans es ∧ rMark K m mv B ∧ Same B H ∧ Ret B H (rRan K (runE ans m es 0 n m) (rulesOf es).length) Q
theorem ok_ran_gen (T : Txt K mg) {k : Nat} (okE : En → Prop) {sub : Sp} (F : FnOk P w K mg base CX0 (k + 2) (a_w_ran K) (fdOf K (a_w_ran K)) ["_law_plain_here", "_law_answers", "_law_first", "_law_begin"] sub)
    (hsub : ∀ xs, okE (.s xs) → ∀ vs H Q E, sp_ran K (fun e => ∃ x, e = .r x) vs H Q E → sub vs H Q E) :
    FnOk P w K mg base CX0 (k + 3) (a_w_ran K) (fdOf K (a_w_ran K)) ["_law_plain_here", "_law_answers", "_law_first", "_law_begin"] (sp_ran K okE) := by
  refine (f_w_ran T).ok sc_w_ran (fun vs H Q E h => ?_) (fun cdv A outer s0 H vs Q E hr h => ?_)
  · obtain ⟨B, v, mv, d, n, es, ans, m, rfl, _⟩ := h
    rfl
  · obtain ⟨B, v, mv, d, n, es, ans, m, rfl, ⟨p, ws, rfl, hp, hP⟩, hd, hok, h12, hrl, hru, hcov, hm, sm, kk⟩ := h
    have ok_w_ran := fun (T : Txt K mg) => F
    refine ⟨_, (pss_cons (ps_asg (pe_tup (pa_cons (pv 3) (pa_cons (pe_lst pa_nil) (pa_cons pe_int (pa_cons (pv 2) pa_nil))))) (pg_tup rfl (pgs_cons (pg_name (i := 4) sc_w_ran.nd rfl (Or.inl rfl)) (pgs_cons (pg_name (i := 5) sc_w_ran.nd rfl (Or.inl rfl)) (pgs_cons (pg_name (i := 6) sc_w_ran.nd rfl (Or.inl rfl)) (pgs_cons (pg_name (i := 7) sc_w_ran.nd rfl (Or.inl rfl)) pgs_nil)))))) (pss_cons (ps_for PassesOwn.never rfl (pi_list (pv 0)) (pg_name (i := 8) sc_w_ran.nd rfl (Or.inl rfl)) (pss_cons (ps_set (i := 9) sc_w_ran.nd rfl (Or.inl rfl) (pe_ifExp (pt_val (pe_callB call_isi (by rfl) (n_isinstance T) (by decide +kernel) (pa_cons (pv 8) (pa_cons (pe_ty (n := "list") (by rfl) (n_list T) (by decide +kernel)) pa_nil)))) (pe_callB call_len_seq (by rfl) (n_len T) (by decide +kernel) (pa_cons (pe_call (ok_w_rules T) (hr.mono (by omega)) (by rfl) (g_w_rules T) (f_w_rules T).kp (b_w_rules T) .nil pass0 (pa_cons (pv 8) pa_nil)) pa_nil)) pe_int)) (pss_cons (ps_if (pt_cmpR op_gt (pv 6) pe_int (nomark _)) (pss_one (ps_set (i := 6) sc_w_ran.nd rfl (Or.inl rfl) (pe_op op_sub (pv 6) pe_int))) (pss_one (ps_if (pt_val (pe_callB call_isi (by rfl) (n_isinstance T) (by decide +kernel) (pa_cons (pv 8) (pa_cons (pe_ty (n := "list") (by rfl) (n_list T) (by decide +kernel)) pa_nil)))) (pss_cons (ps_asg (pe_call (ok_w_ran T) (hr.mono (by omega)) (by rfl) (g_w_ran T) (f_w_ran T).kp (b_w_ran T) .nil pass0 (pa_cons (pv 8) (pa_cons (pv 1) (pa_cons (pv 7) (pa_cons (pv 4) pa_nil))))) (pg_tup rfl (pgs_cons (pg_name (i := 4) sc_w_ran.nd rfl (Or.inl rfl)) (pgs_cons (pg_name (i := 11) sc_w_ran.nd rfl (Or.inl rfl)) pgs_nil)))) (pss_one (ps_set (i := 5) sc_w_ran.nd rfl (Or.inl rfl) (pe_op op_cat (pv 5) (pv 11))))) (pss_cons (ps_set (i := 10) sc_w_ran.nd rfl (Or.inl rfl) (pe_ix ix_tup (pe_ix ix_tup (pv 8) pe_int (fun _ _ => rfl)) (pe_tupM PySem.F.plainAttrs_tuple PySem.F.slot_tuple_index PySem.F.type_tuple_index mt_tup_index (pa_cons pe_str (pa_cons pe_str (pa_cons pe_str (pa_cons pe_str pa_nil)))) (pa_cons (pe_dget (hu_of hr) (pv 1) (pe_ix ix_tup (pv 8) pe_int (fun _ _ => rfl)) (fun _ _ => rfl)) pa_nil)) (fun _ _ => rfl))) (pss_cons (ps_set (i := 5) sc_w_ran.nd rfl (Or.inl rfl) (pe_op op_cat (pv 5) (pe_lst (pa_cons (pv 7) pa_nil)))) (pss_cons (ps_set (i := 4) sc_w_ran.nd rfl (Or.inl rfl) (pe_call (ok_w_acted T) (hr.mono (by omega)) (by rfl) (g_w_acted T) (f_w_acted T).kp (b_w_acted T) .nil pass0 (pa_cons (pv 10) (pa_cons (pv 4) (pa_cons (pv 3) (pa_cons (pv 7) pa_nil)))))) (pss_cons (ps_if (PW.pt (pw_or (pt_cmpR op_eq (pv 10) pe_str (nomark _)) (pw_or1 (PW.pt (pw_and (pt_cmpR op_eq (pv 10) pe_str (nomark _)) (pw_and1 (pt_cmpR op_eq (pe_ix ix_tup (pv 4) pe_int (fun _ _ => rfl)) pe_str (nomark _)))))))) (pss_one (ps_ret (pe_tup (pa_cons (pv 4) (pa_cons (pv 5) pa_nil))))) pss_nil) (pss_one (ps_set (i := 6) sc_w_ran.nd rfl (Or.inl rfl) (pe_ifExp (pt_val (pe_callB call_isi (by rfl) (n_isinstance T) (by decide +kernel) (pa_cons (pv 10) (pa_cons (pe_ty (n := "int") (by rfl) (n_int T) (by decide +kernel)) pa_nil)))) (pv 10) pe_int)))))))))) (pss_one (ps_set (i := 7) sc_w_ran.nd rfl (Or.inl rfl) (pe_op op_add (pv 7) (pv 9))))))) (pss_one (ps_ret (pe_tup (pa_cons (pv 4) (pa_cons (pv 5) pa_nil))))))), ?_⟩
    refine ⟨_, rfl, line_le (show 0 ≤ 1000000 by decide), fun q hq => ⟨_, rfl, line_le (show 4 ≤ 1000000 by decide), fun u hu => ?_⟩⟩
    have l0 := Gr.lay (M := M0) (o := .lst []) sm hq
    have g0 := l0.then0 (Gr.hid (o := .tup [mv, .ref q, .int 0, .int n]) l0.sub hu)
    refine ⟨u, _, rfl, .inl (.inl upd_same), rfl, _, _, rfl, _, _, rfl, _, _, rfl, _, _, rfl, rfl, ?_⟩
    refine ⟨_, rfl, p, rfl, ⟨ws, SqL.of (g0.sub _ _ (g0.base _ _ hp))⟩, ?_⟩
    have hwl : ws.length = es.length := by have := hP.length; rw [List.length_map] at this; exact this.symm
    refine for_it (walk_list (K := K) (a := p) (xs := ws)) (fun i σ H' => ∃ B' mv' lq ys m' l nn x8 x9 x10 x11, Gr M0 B H B' H' ∧ rMark K m' mv' B' ∧ B' lq = some (.lst ys) ∧ ys.length ≤ (rulesOf (es.take i)).length ∧ runE ans m (es.drop i) l nn m' = runE ans m es 0 n m ∧
      σ = [some (.ref p), some (.ref d), some (.int n), some mv, some mv', some (.ref lq), some (.int (l : Nat)), some (.int nn), x8, x9, x10, x11]) ⟨_, mv, q, [], m, 0, n, none, none, none, none, g0, mono_mark m _ _ _ g0.base hm, upd_same, Nat.le_refl _, rfl, rfl⟩ (fun i σ H' hi pv => ?_) (fun i x σ H' H2 hi pv y => ?_) (fun σ H' pv => ?_)
    · obtain ⟨B', mv', lq, ys, m', l, nn, x8, x9, x10, x11, g, _⟩ := pv
      exact sqL_B g hp
    · obtain ⟨B', mv', lq, ys, m', l, nn, x8, x9, x10, x11, g, hm', hlq, hyl, hrun, rfl⟩ := pv
      obtain ⟨rfl, hx⟩ := y
      obtain ⟨R, hR, hxR⟩ := hP.at_ hx
      obtain ⟨e, he, rfl⟩ : ∃ e, es[i]? = some e ∧ R = rEnL K e := by
        rw [List.getElem?_map] at hR
        cases c : es[i]? with
        | none => rw [c] at hR; cases hR
        | some e => rw [c] at hR; exact ⟨e, rfl, (Option.some.inj hR).symm⟩
      have hxe := mono_enL (K := K) e _ _ _ g.base hxR
      have ty := enL_ty hxe g.sub
      have hin : e ∈ es := List.mem_of_getElem? he
      have htk := rulesOf_take he
      have hle : (rulesOf (es.take (i + 1))).length ≤ 12 := Nat.le_trans (rulesOf_take_le es (i + 1)) hrl
      have hdrop : es.drop i = e :: es.drop (i + 1) := by
        obtain ⟨hlt, e0⟩ := List.getElem?_eq_some_iff.mp he
        rw [← e0]
        exact List.drop_eq_getElem_cons hlt
      rw [hdrop] at hrun
      have hrl1 : e.rules.length ≤ 12 := by rw [htk, List.length_append] at hle; omega
      -- left out
      have skip : ∀ l', l = l' + 1 → runE ans m (es.drop (i + 1)) l' (nn + e.rules.length) m' = runE ans m es 0 n m := by
        rintro l' rfl
        rw [← hrun]
        rw [runE]
      cases e with
      | s xs =>
        have hsx : rPlain K (xs.map En.r) x B' := by
          rw [← plain_flat]
          exact hxe
        have hrx : rulesOf (xs.map En.r) = xs := rulesOf_flat xs
        have hxl : xs.length ≤ 12 := hrl1
        have hsub' : ∀ z ∈ xs, z ∈ rulesOf es := fun z hz => List.mem_flatMap.mpr ⟨_, hin, hz⟩
        refine ⟨_, rfl, _, .ty _, _, _, true, rfl, .ty _, (show TyX K H2 x (.type "list") from ty), kit_ty (by decide +kernel), ⟨true, rfl, iteT ?_⟩⟩
        refine ⟨_, rfl, B', x, xs.map En.r, rfl, hsx, fun _ _ => trivial, by rw [List.length_map]; omega, by rw [hrx]; omega, g.sub, fun rv B3 H3 g3 hrv => ?_⟩
        rw [hrx] at hrv
        obtain ⟨rp, rys, rfl, hrp, hrP⟩ := hrv
        have hryl : rys.length = xs.length := by have := hrP.length; rw [List.length_map] at this; exact this.symm
        refine ⟨rp, rys, rfl, .inl (SqL.of (g3.sub _ _ hrp)), ?_⟩
        rw [hryl]
        have gA := g.then0 g3
        dsimp only [gName, tSeq]
        cases l with
        | succ l' =>
          refine ifS_b true (fun Q hQ => ⟨_, rfl, _, _, rfl, rfl, _, rfl, by rw [decide_eq_true (show (0 : Int) < ((l' + 1 : Nat) : Int) by omega)]; exact hQ⟩) (fun _ => ?_) (fun z => by cases z)
          refine ⟨_, rfl, _, _, rfl, rfl, _, rfl, _, rfl, _, _, rfl, rfl, ?_⟩
          refine ⟨B3, mv', lq, ys, m', l', nn + (xs.length : Nat), some x, some (.int (xs.length : Nat)), x10, x11, gA, mono_mark m' _ _ _ g3.base hm', g3.base _ _ hlq, ?_, skip l' rfl, ?_⟩
          · rw [htk, List.length_append]; omega
          · have e1 : ((l' + 1 : Nat) : Int) - 1 = ((l' : Nat) : Int) := by omega
            rw [← e1]
            rfl
        | zero =>
          refine ifS_b false (fun Q hQ => ⟨_, rfl, _, _, rfl, rfl, _, rfl, hQ⟩) (fun z => by cases z) (fun _ => ?_)
          have ty3 : TyX K H3 x (.type "list") := by
            have := enL_ty (mono_enL (K := K) _ _ _ _ g3.base hxe) g3.sub
            exact this
          refine ⟨_, rfl, _, .ty _, _, _, true, rfl, .ty _, ty3, kit_ty (by decide +kernel), ⟨true, rfl, iteT ?_⟩⟩
          refine ⟨_, rfl, _, rfl, _, rfl, _, rfl, hsub xs (hok _ hin) _ _ _ _ ⟨B3, x, mv', d, nn, xs.map En.r, ans, m', rfl, mono_plain _ _ _ _ g3.base hsx, gA.base _ _ hd, ?_, ?_, ?_, ?_, ?_, mono_mark m' _ _ _ g3.base hm', g3.sub, fun tv B4 H4 g4 htv => ?_⟩⟩
          · intro e' h'
            obtain ⟨z, _, rfl⟩ := List.mem_map.mp h'
            exact ⟨z, rfl⟩
          · rw [List.length_map]; omega
          · rw [hrx]; omega
          · rw [hrx]; exact fun z hz => hru z (hsub' z hz)
          · intro z hz
            rw [hrx] at hz
            exact hcov z (hsub' z hz)
          rw [hrx, runE_flat] at htv
          obtain ⟨tt, tmv, tl, tys, rfl, htt, htm, htl, htyl⟩ := htv
          refine ⟨tt, _, rfl, sqT_same g4.sub htt, rfl, _, _, rfl, _, _, rfl, rfl, ?_⟩
          refine ⟨_, rfl, _, rfl, lq, tl, ys, tys, rfl, rfl, g4.sub _ _ (g4.base _ _ (g3.base _ _ hlq)), g4.sub _ _ htl, line_le ?_, fun r hr => ?_⟩
          · rw [htk, List.length_append] at hle
            have : (En.s xs).rules.length = xs.length := rfl
            omega
          have l5 := Gr.lay (M := M0) (o := .lst (ys ++ tys)) g4.sub hr
          refine ⟨_, rfl, _, rfl, _, _, rfl, rfl, ?_⟩
          refine ⟨_, tmv, r, ys ++ tys, _, 0, nn + (xs.length : Nat), _, _, _, _, (gA.then0 g4).then0 l5, mono_mark _ _ _ _ l5.base htm, upd_same, ?_, ?_, rfl⟩
          · rw [htk, List.length_append, List.length_append]
            have : (En.s xs).rules.length = xs.length := rfl
            omega
          · rw [← hrun, runE_s0]
      | r z =>
        obtain ⟨a, t, rfl, h1, h2⟩ := id hxe
        have hzin : z ∈ rulesOf es := List.mem_flatMap.mpr ⟨_, hin, List.mem_singleton.mpr rfl⟩
        have hox := hru z hzin
        obtain ⟨r, hr1, hr2⟩ := hcov z hzin
        have hget : get ans z.1 = r := by
          unfold get
          rw [hr1]
          rfl
        refine ⟨_, rfl, _, .ty _, _, _, false, rfl, .ty _, (show TyX K H2 (.ref a) (.type "tuple") from ty), kit_ty (by decide +kernel), ⟨false, rfl, iteF ?_⟩⟩
        dsimp only [gName, tSeq]
        cases l with
        | succ l' =>
          refine ifS_b true (fun Q hQ => ⟨_, rfl, _, _, rfl, rfl, _, rfl, by rw [decide_eq_true (show (0 : Int) < ((l' + 1 : Nat) : Int) by omega)]; exact hQ⟩) (fun _ => ?_) (fun z => by cases z)
          refine ⟨_, rfl, _, _, rfl, rfl, _, rfl, _, rfl, _, _, rfl, rfl, ?_⟩
          refine ⟨B', mv', lq, ys, m', l', nn + 1, some (.ref a), some (.int 1), x10, x11, g, hm', hlq, ?_, skip l' rfl, ?_⟩
          · rw [htk, List.length_append]; omega
          · have e1 : ((l' + 1 : Nat) : Int) - 1 = ((l' : Nat) : Int) := by omega
            rw [← e1]
            rfl
        | zero =>
          refine ifS_b false (fun Q hQ => ⟨_, rfl, _, _, rfl, rfl, _, rfl, hQ⟩) (fun z => by cases z) (fun _ => ?_)
          refine ⟨_, rfl, _, .ty _, _, _, false, rfl, .ty _, (show TyX K H2 (.ref a) (.type "tuple") from ty), kit_ty (by decide +kernel), ⟨false, rfl, iteF ?_⟩⟩
          have hix : results[ixRes r]? = some r ∧ (∀ m, m < ixRes r → results[m]? ≠ some r) ∧ ixRes r < 4 := by
            simp only [results, List.mem_cons, List.not_mem_nil, or_false] at hr2
            rcases hr2 with rfl | rfl | rfl | rfl <;> decide +kernel
          refine ⟨_, rfl, a, _, 1, _, rfl, rfl, sqT_same g.sub h1, rfl, line_le (show 4 ≤ 1000000 by decide), fun pp hpp => ?_⟩
          have g3 := g.then0 (Gr.hid (o := .tup [.str "yes", .str "no", .str "skip", .str "gone"]) g.sub hpp)
          have gs : Gr M0 B' H2 B' (upd H2 pp (.tup [.str "yes", .str "no", .str "skip", .str "gone"])) := Gr.hid g.sub hpp
          refine ⟨_, rfl, _, rfl, a, _, 0, _, rfl, rfl, sqT_same gs.sub h1, rfl, d, .str r, rfl, .inl ⟨_, Sum.inr z.1, .inl (gs.sub _ _ (g.base _ _ hd)), rfl, by unfold ansV; rw [valV_ans, hr1]; rfl⟩, ?_⟩
          refine ⟨pp, results, r, ixRes r, rfl, rfl, .inl (.inl upd_same), hix.1, hix.2.1, ?_⟩
          have h4 : ixRes r < z.2.length := by rw [(ok_parts hox).2.1]; exact hix.2.2
          refine ⟨t, z.2, ((ixRes r : Nat) : Int), actOf z r, rfl, rfl, sqT_same gs.sub h2, atI_nat (by unfold actOf; rw [List.getD_eq_getElem?_getD, List.getElem?_eq_getElem h4]; rfl), ?_⟩
          refine ⟨_, rfl, _, rfl, line_le (show 1 ≤ 1000000 by decide), fun nl hnl => ?_⟩
          have g4 := gs.then0 (Gr.hid (o := .lst [.int nn]) gs.sub hnl)
          have hB'l : upd (upd H2 pp (.tup [.str "yes", .str "no", .str "skip", .str "gone"])) nl (.lst [.int nn]) lq = some (.lst ys) := g4.sub _ _ hlq
          refine ⟨lq, nl, ys, [.int nn], rfl, rfl, hB'l, upd_same, line_le (by show ys.length + 1 ≤ 1000000; rw [htk, List.length_append] at hle; omega), fun r2 hr2' => ?_⟩
          have l5 := Gr.lay (M := M0) (o := .lst (ys ++ [.int nn])) g4.sub hr2'
          have g5 := g4.then0 l5
          have hact := ok_actOf hox hr2
          refine ⟨_, rfl, _, rfl, _, rfl, _, rfl, _, actOf z r, mv', mv, m', m, nn, rfl, hact, mono_mark _ _ _ _ l5.base hm', mono_mark _ _ _ _ l5.base (mono_mark _ _ _ _ g.base hm), g5.sub, fun v B6 H6 g6 hv6 => ?_⟩
          have gT := (g.then0 g5).then0 g6
          rw [runE_r, hget] at hrun
          generalize hac : actOf z r = act at hact hv6 hrun
          generalize hmm : markd act m' m nn = m2 at hv6 hrun
          have hl6 := g6.base _ _ (upd_same (H := B') (a := r2) (o := .lst (ys ++ [V.int nn])))
          have hx1 : (En.r z).rules.length = 1 := rfl
          have hyl2 : (ys ++ [V.int nn]).length ≤ (rulesOf (es.take (i + 1))).length := by rw [htk, List.length_append, List.length_append]; exact Nat.add_le_add_right hyl 1
          obtain ⟨p6, rfl, hp6⟩ := id hv6
          dsimp only [gName, tSeq]
          refine ifS_b (b := stopsAt act m2) (fun Qf q => ?_) (fun hb => ?_) (fun hb => ?_)
          · refine ⟨_, rfl, scal_act hact, isW act "die", rfl, ?_⟩
            unfold stopsAt at q
            cases hd : isW act "die" with
            | true =>
              rw [hd, Bool.true_or] at q
              exact iteT q
            | false =>
              rw [hd, Bool.false_or] at q
              refine iteF ⟨_, rfl, scal_act hact, isW act "done", rfl, ?_⟩
              cases hd2 : isW act "done" with
              | true =>
                rw [hd2, Bool.true_and] at q
                refine iteT ?_
                have hp6' := sqT_same g6.sub hp6
                cases m2 with
                | none => exact ⟨_, rfl, p6, _, 0, _, rfl, rfl, hp6', rfl, rfl, false, rfl, q⟩
                | good => exact ⟨_, rfl, p6, _, 0, _, rfl, rfl, hp6', rfl, rfl, true, rfl, q⟩
                | bad j => exact ⟨_, rfl, p6, _, 0, _, rfl, rfl, hp6', rfl, rfl, false, rfl, q⟩
              | false =>
                rw [hd2, Bool.false_and] at q
                exact iteF q
          · rw [if_pos hb] at hrun
            refine ⟨_, rfl, _, rfl, line_le (show 2 ≤ 1000000 by decide), fun tt htt => ?_⟩
            have l7 := Gr.lay (M := M0) (o := .tup [.ref p6, .ref r2]) g6.sub htt
            refine kk _ _ _ (gT.then0 l7) ⟨tt, .ref p6, r2, _, rfl, .inl (.inl upd_same), ?_, l7.base _ _ hl6, Nat.le_trans hyl2 (rulesOf_take_le es (i + 1))⟩
            rw [← hrun]
            exact mono_mark _ _ _ _ l7.base hv6
          · rw [hb] at hrun
            rw [if_neg (by decide)] at hrun
            have key : ∀ (B7 H7 : Hp) (j : Nat), Gr M0 B6 H6 B7 H7 → jumpOf act = j → ∀ σ', σ' = [some (.ref p), some (.ref d), some (.int n), some mv, some (.ref p6), some (.ref r2), some (.int (j : Nat)), some (.int (nn + 1)), some (.ref a), some (.int 1), some act, x11] →
                ∃ B' mv' lq ys m' l nn x8 x9 x10 x11, Gr M0 B H B' H7 ∧ rMark K m' mv' B' ∧ B' lq = some (.lst ys) ∧ ys.length ≤ (rulesOf (es.take (i + 1))).length ∧ runE ans m (es.drop (i + 1)) l nn m' = runE ans m es 0 n m ∧
                σ' = [some (.ref p), some (.ref d), some (.int n), some mv, some mv', some (.ref lq), some (.int (l : Nat)), some (.int nn), x8, x9, x10, x11] := by
              intro B7 H7 j g7 hj σ' eσ
              rw [hj] at hrun
              exact ⟨B7, .ref p6, r2, _, m2, j, nn + 1, _, _, _, _, gT.then0 g7, mono_mark _ _ _ _ g7.base hv6, g7.base _ _ hl6, hyl2, hrun, eσ⟩
            cases act with
            | int j =>
              have hj : 1 ≤ j := by
                have := of_decide_eq_true (show decide (1 ≤ j ∧ j ≤ 9) = true from hact)
                exact this.1
              refine ⟨_, rfl, _, .ty _, _, _, true, rfl, .ty _, (.base (.int j)), kit_ty (by decide +kernel), ⟨true, rfl, iteT ⟨_, rfl, _, rfl, _, rfl, _, _, rfl, rfl, key _ _ j.toNat (Gr.refl g6.sub) rfl _ ?_⟩⟩⟩
              rw [show ((j.toNat : Nat) : Int) = j by omega]
              rfl
            | str y => exact ⟨_, rfl, _, .ty _, _, _, false, rfl, .ty _, (.base (.str y)), kit_ty (by decide +kernel), ⟨false, rfl, iteF ⟨_, rfl, _, rfl, _, _, rfl, rfl, key _ _ 0 (Gr.refl g6.sub) rfl _ rfl⟩⟩⟩
            | _ => cases hact
    · obtain ⟨B', mv', lq, ys, m', l, nn, x8, x9, x10, x11, g, hm', hlq, hyl, hrun, rfl⟩ := pv
      refine ⟨_, rfl, _, rfl, line_le (show 2 ≤ 1000000 by decide), fun tt htt => ?_⟩
      have l7 := Gr.lay (M := M0) (o := .tup [mv', .ref lq]) g.sub htt
      refine kk _ _ _ (g.then0 l7) ⟨tt, mv', lq, ys, rfl, .inl (.inl upd_same), ?_, l7.base _ _ hlq, Nat.le_trans hyl (rulesOf_take_le es _)⟩
      rw [hwl, List.drop_length] at hrun
      have hr0 : runE ans m ([] : List En) l nn m' = m' := by rw [runE]
      rw [← hrun, hr0]
      exact mono_mark _ _ _ _ l7.base hm'
theorem ok_ran_flat (T : Txt K mg) : FnOk P w K mg base CX0 3 (a_w_ran K) (fdOf K (a_w_ran K)) ["_law_plain_here", "_law_answers", "_law_first", "_law_begin"] (sp_ran K fun e => ∃ x, e = .r x) :=
  ok_ran_gen T (k := 0) (sub := fun _ _ _ _ => False) _ ⟨fun _ _ _ _ h => h.elim, fun _ _ _ _ _ _ _ _ _ _ _ _ _ h => h.elim⟩ fun xs h => by
    obtain ⟨x, e⟩ := h
    cases e
theorem ok_w_ran (T : Txt K mg) : FnOk P w K mg base CX0 4 (a_w_ran K) (fdOf K (a_w_ran K)) ["_law_plain_here", "_law_answers", "_law_first", "_law_begin"] (sp_ran K fun _ => True) :=
  ok_ran_gen T (k := 1) (fun _ => True) (ok_ran_flat T) fun xs _ vs H Q E h => h
/-- what a run answers, by the law -/
def sp_where (K : PySem.W.Frag) : Sp := fun vs H Q _ => ∃ (B : Hp) (v : V) (d : Addr) (es : List En) (ans : Ans), vs = [v, .ref d] ∧ rPlain K es v B ∧ B d = some (.dK (ansV ans)) ∧ OkS es ∧ Cov ans es ∧ Same B H ∧ Ret B H (RV (.str (leads es ans))) Q
def sp_run (K : PySem.W.Frag) : Sp := fun vs H Q _ => ∃ (B : Hp) (v : V) (d : Addr) (es : List En) (ans : Ans), vs = [v, .ref d] ∧ rPlain K es v B ∧ B d = some (.dK (ansV ans)) ∧ OkS es ∧ Cov ans es ∧ Same B H ∧ Ret B H (fun v B => ∃ t x y, v = .ref t ∧ SqT K B t [.str (leads es ans), x, y]) Q
theorem ok_w_run (T : Txt K mg) : FnOk P w K mg base CX0 5 (a_w_run K) (fdOf K (a_w_run K)) ["_law_plain_here", "_law_answers"] (sp_run K) := by
  refine (f_w_run T).ok sc_w_run (fun vs H Q E h => ?_) (fun cdv A outer s0 H vs Q E hr h => ?_)
  · obtain ⟨B, v, d, es, ans, rfl, _⟩ := h
    rfl
  · obtain ⟨B, v, d, es, ans, rfl, hv, hd, ok, hc, sm, k⟩ := h
    refine ⟨_, (pss_cons (ps_asg (pe_call (ok_w_ran T) (hr.mono (by decide)) (by rfl) (g_w_ran T) (f_w_ran T).kp (b_w_ran T) .nil pass0 (pa_cons (pv 0) (pa_cons (pv 1) (pa_cons pe_int (pa_cons (pe_tup (pa_cons pe_str (pa_cons pe_non pa_nil))) pa_nil))))) (pg_tup rfl (pgs_cons (pg_name (i := 2) sc_w_run.nd rfl (Or.inl rfl)) (pgs_cons (pg_name (i := 3) sc_w_run.nd rfl (Or.inl rfl)) pgs_nil)))) (pss_one (ps_ret (pe_tup (pa_cons (pe_ifExp (pt_cmpR op_eq (pe_ix ix_tup (pv 2) pe_int (fun _ _ => rfl)) pe_str (nomark _)) pe_str pe_str) (pa_cons (pv 3) (pa_cons (pe_ix ix_tup (pv 2) pe_int (fun _ _ => rfl)) pa_nil))))))), ?_⟩
    refine ⟨_, rfl, _, rfl, line_le (show 2 ≤ 1000000 by decide), fun t ht => ?_⟩
    have l1 := Gr.lay (M := M0) (o := .tup [.str "none", .non]) sm ht
    refine ⟨_, v, .ref t, d, 0, es, ans, .none, rfl, mono_plain _ _ _ _ l1.base hv, l1.base _ _ hd, fun _ _ => trivial, ok.len, ok.rl, ok.ru, hc, ⟨t, rfl, .inl (.inl upd_same)⟩, l1.sub, fun rv B2 H2 g2 hrv => ?_⟩
    obtain ⟨tt, mv, tl, tys, rfl, htt, htm, htl, _⟩ := hrv
    refine ⟨tt, _, rfl, sqT_same g2.sub htt, rfl, _, _, rfl, _, _, rfl, rfl, ?_⟩
    have gA := l1.then0 g2
    obtain ⟨p, rfl, hp⟩ := id htm
    have hp' := sqT_same g2.sub hp
    have fin : ∀ (w1 : V), (∀ Q' : VK, Q' w1 H2 → Q' w1 H2) → ∀ (B3 H3 : Hp), True := fun _ _ _ _ => trivial
    unfold leads at k
    generalize hm : runE ans .none es 0 0 .none = m at k htm hp hp'
    cases m with
    | none =>
      refine ⟨_, rfl, p, _, 0, _, rfl, rfl, hp', rfl, rfl, false, rfl, iteF ⟨_, rfl, _, rfl, p, _, 1, _, rfl, rfl, hp', rfl, line_le (show 3 ≤ 1000000 by decide), fun u hu => ?_⟩⟩
      have l5 := Gr.lay (M := M0) (o := .tup [.str "out", .ref tl, .non]) gA.sub hu
      exact k _ _ _ (gA.then0 l5) ⟨u, _, _, rfl, .inl (.inl upd_same)⟩
    | good =>
      refine ⟨_, rfl, p, _, 0, _, rfl, rfl, hp', rfl, rfl, true, rfl, iteT ⟨_, rfl, _, rfl, p, _, 1, _, rfl, rfl, hp', rfl, line_le (show 3 ≤ 1000000 by decide), fun u hu => ?_⟩⟩
      have l5 := Gr.lay (M := M0) (o := .tup [.str "in", .ref tl, .non]) gA.sub hu
      exact k _ _ _ (gA.then0 l5) ⟨u, _, _, rfl, .inl (.inl upd_same)⟩
    | bad j =>
      refine ⟨_, rfl, p, _, 0, _, rfl, rfl, hp', rfl, rfl, false, rfl, iteF ⟨_, rfl, _, rfl, p, _, 1, _, rfl, rfl, hp', rfl, line_le (show 3 ≤ 1000000 by decide), fun u hu => ?_⟩⟩
      have l5 := Gr.lay (M := M0) (o := .tup [.str "out", .ref tl, .int j]) gA.sub hu
      exact k _ _ _ (gA.then0 l5) ⟨u, _, _, rfl, .inl (.inl upd_same)⟩
theorem ok_w_where (T : Txt K mg) : FnOk P w K mg base CX0 6 (a_w_where K) (fdOf K (a_w_where K)) ["_law_plain_here", "_law_answers"] (sp_where K) := by
  refine (f_w_where T).ok sc_w_where (fun vs H Q E h => ?_) (fun cdv A outer s0 H vs Q E hr h => ?_)
  · obtain ⟨B, v, d, es, ans, rfl, _⟩ := h
    rfl
  · obtain ⟨B, v, d, es, ans, rfl, hv, hd, ok, hc, sm, k⟩ := h
    refine ⟨_, (pss_one (ps_ret (pe_ix ix_tup (pe_call (ok_w_run T) (hr.mono (by decide)) (by rfl) (g_w_run T) (f_w_run T).kp (b_w_run T) .nil pass0 (pa_cons (pv 0) (pa_cons (pv 1) pa_nil))) pe_int (fun _ _ => rfl)))), ?_⟩
    refine ⟨_, rfl, _, rfl, B, v, d, es, ans, rfl, hv, hd, ok, hc, sm, fun rv B2 H2 g2 hrv => ?_⟩
    obtain ⟨t, x, y, rfl, ht⟩ := hrv
    exact ⟨t, _, 0, _, rfl, rfl, sqT_same g2.sub ht, rfl, k _ _ _ g2 rfl⟩
end
end Lg
/-! D25 -/
set_option maxHeartbeats 4000000
namespace Lg
open PySem L2
section
variable {P : Program} {w : World} {K : PySem.W.Frag} {mg : Str → Option Value} {base : Heap}
def sp_agreesN : Sp := fun vs H Q _ => ∃ (B : Hp) (d e : Addr) (a kn : Ans), vs = [.ref d, .ref e] ∧ B d = some (.dK (ansV a)) ∧ B e = some (.dK (ansV kn)) ∧ Sub kn a ∧ (kn.map (·.1)).Nodup ∧ kn.length ≤ 1000 ∧ Same B H ∧ Ret B H (RV (.bl (agree a kn))) Q
theorem get_nodup {kn : Ans} (nd : (kn.map (·.1)).Nodup) {p : Str × Str} (hp : p ∈ kn) : get kn p.1 = p.2 := by
  induction kn with
  | nil => cases hp
  | cons q kn ih =>
    rw [List.map_cons, List.nodup_cons] at nd
    unfold get
    rcases List.mem_cons.mp hp with e | hp'
    · subst e
      obtain ⟨x, y⟩ := p
      rw [List.lookup_cons_self]
      rfl
    · have hne : p.1 ≠ q.1 := fun e => nd.1 (by rw [← e]; exact List.mem_map_of_mem hp')
      obtain ⟨x, y⟩ := q
      rw [List.lookup_cons, show (p.1 == x) = false from beq_false_of_ne hne]
      exact ih nd.2 hp'
theorem filter_none {kn : Ans} {f : Str × Str → Bool} : (kn.filter fun p => !f p).isEmpty = kn.all f := by
  induction kn with
  | nil => rfl
  | cons p kn ih =>
    rw [List.filter_cons, List.all_cons]
    cases f p with
    | true => exact ih
    | false => rfl
theorem ok_w_agree (T : Txt K mg) : FnOk P w K mg base CX0 1 (a_w_agree K) (fdOf K (a_w_agree K)) ["_law_answers", "_law_known_here"] sp_agreesN := by
  refine (f_w_agree T).ok sc_w_agree (fun vs H Q E h => ?_) (fun cdv A outer s H vs Q E hr h => ?_)
  · obtain ⟨B, d, e, a, kn, rfl, _⟩ := h
    rfl
  · obtain ⟨B, d, e, a, kn, rfl, hd, he, hsub, nd, hl, sm, k⟩ := h
    refine ⟨_, (pss_one (ps_ret (pe_cmpR (op_eqL0 (hu_of hr)) (pe_lock (pe_lc (own := [("_law_name", 2)]) (by rfl) sc_w_agree.nd (pi_keys (pv 1)) (blkOk_by (own := [("_law_name", 2)]) (N := N_w_agree) (sc := defScope s_w_agree) (by decide +kernel)) (fun _ _ _ _ _ => (pg_name (i := 2) sc_w_agree.nd rfl (Or.inl rfl))) (fun _ _ _ _ _ => (pts_one (pt_cmpR op_ne (pe_dget (hu_of hr) (pv 0) (pv 2) (fun _ _ => rfl)) (pe_dget (hu_of hr) (pv 1) (pv 2) (fun _ _ => rfl)) (nomark _)))) (fun _ _ _ _ _ => (pv 2)))) (pe_lst pa_nil) (nomark _)))), ?_⟩
    refine ⟨e, _, sm _ _ he, trivial, fun od => ?_⟩
    refine ⟨_, rfl, e, od, rfl, .inl ⟨ansV kn, upd_same, fun D hD => ?_⟩⟩
    have hDe : D ≠ e := by
      rintro rfl
      rw [upd_same] at hD
      cases hD
    have hnl : (ansV kn).length = kn.length := List.length_map ..
    refine lc_sel (walk_keys (d := e) (o := od) (kvs := ansV kn)) (M := M0) (B1 := off B e) (fun i => (kn[i]?).bind fun p => if (get a p.1 != p.2) = true then some (RV (.str p.1)) else none) (lock_same sm) hD mok0 (line_lt (by omega)) (fun B2 H2 g => g.keep e _ (fun z => z) upd_same) (fun i R h => ?_) (fun i x B2 H2 H3 hi g y Ky Kn ky kn' => ?_) (fun ys B2 H2 g h2 hP => ?_)
    · cases q : kn[i]? with
      | none => rw [q] at h; cases h
      | some p =>
        rw [q] at h
        have h' : (if (get a p.1 != p.2) = true then some (RV (.str p.1)) else none) = some R := h
        split at h'
        · cases h'; exact mono_v _
        · cases h'
    · obtain ⟨rfl, k0, v0, e1, rfl⟩ := y
      cases q : kn[i]? with
      | none =>
        rw [hnl] at hi
        rw [List.getElem?_eq_getElem hi] at q
        cases q
      | some p =>
        have eq1 : (ansV kn)[i]? = some (Sum.inr p.1, V.str p.2) := by
          unfold ansV
          rw [List.getElem?_map, q]
          rfl
        rw [eq1] at e1
        cases e1
        have hin : p.1 ∈ a.map (·.1) := hsub p (List.mem_of_getElem? q)
        have hkn : valV (ansV kn) (Sum.inr p.1) = some (V.str (get kn p.1)) := valV_get (List.mem_map_of_mem (List.mem_of_getElem? q))
        rw [get_nodup nd (List.mem_of_getElem? q)] at hkn
        refine ⟨rfl, _, rfl, _, rfl, d, .str (get a p.1), rfl, .inl ⟨ansV a, Sum.inr p.1, ?_, rfl, (valV_get hin).symm⟩, _, rfl, _, rfl, e, .str p.2, rfl, .inl ⟨ansV kn, Sum.inr p.1, .inr ⟨od, g.keep e _ (fun z => z) upd_same⟩, rfl, hkn.symm⟩, rfl, _, rfl, ?_⟩
        · by_cases hde : d = e
          · subst hde
            have e7 : ansV a = ansV kn := by
              have := hd.symm.trans he
              injection this with this
              injection this
            rw [e7]
            exact .inr ⟨od, g.keep d _ (fun z => z) upd_same⟩
          · exact .inl (g.keep d _ (fun z => z) (by rw [upd_ne hde]; exact sm _ _ hd))
        · have e3 : (!decide (V.str (get a p.1) = V.str p.2)) = (get a p.1 != p.2) := by rw [sEq2]; rfl
          rw [e3]
          cases c : get a p.1 != p.2 with
          | true => exact iteT ⟨_, rfl, ky (RV (.str p.1)) (by rw [q]; show (if (get a p.1 != p.2) = true then _ else _) = _; rw [if_pos c]) _ B2 _ (Gr.refl g.sub) rfl⟩
          | false => exact iteF (kn' (by rw [q]; show (if (get a p.1 != p.2) = true then _ else _) = _; rw [if_neg (by rw [c]; decide)]) B2 _ (Gr.refl g.sub))
    · have e5 : selN (fun i => (kn[i]?).bind fun p => if (get a p.1 != p.2) = true then some (RV (.str p.1)) else none) (ansV kn).length = (kn.filter fun p => get a p.1 != p.2).map fun p => RV (.str p.1) := by
        rw [hnl]
        exact selN_filter kn (fun p => get a p.1 != p.2) (fun p => RV (.str p.1))
      rw [e5] at hP
      have e6 := PairR.of_consts (fun p : Str × Str => V.str p.1) hP
      obtain ⟨hf, gu⟩ := Gr.unlock sm he (fun z => z) g
      refine ⟨hf, line_le (show 0 ≤ 1000000 by decide), fun q hq => ?_⟩
      have g2 := gu.then0 (Gr.hid (o := .lst []) gu.sub hq)
      have h3 : (upd H2 e (.dK (ansV kn))) D = some (.lst ys) := by
        rw [upd_ne hDe]
        exact g.sub _ _ h2
      have hqD : D ≠ q := ne_of_none h3 hq
      have h4 : (upd (upd H2 e (.dK (ansV kn))) q (.lst [])) D = some (.lst ys) := by rw [upd_ne hqD]; exact h3
      refine ⟨D, q, ys, rfl, rfl, SqL.of h4, SqL.of upd_same, ?_⟩
      have e7 : ys.isEmpty = agree a kn := by
        rw [e6, List.isEmpty_map]
        exact filter_none (f := fun p => get a p.1 == p.2)
      show Q (.bl ys.isEmpty) _
      rw [e7]
      exact k _ _ _ g2 rfl
end
end Lg
/-! D26 -/
set_option maxHeartbeats 4000000
namespace Lg
open PySem L2
section
variable {P : Program} {w : World} {K : PySem.W.Frag} {mg : Str → Option Value} {base : Heap}
def sp_settled (K : PySem.W.Frag) : Sp := fun vs H Q _ => ∃ (B : Hp) (v : V) (e : Addr) (rows : Rows) (kn : Ans), vs = [v, .ref e] ∧ RLst (rows.map (rRow K)) v B ∧ B e = some (.dK (ansV kn)) ∧ (∀ r ∈ rows, Sub kn r.1) ∧ (kn.map (·.1)).Nodup ∧ kn.length ≤ 1000 ∧ rows.length ≤ 4000 ∧
  Same B H ∧ Ret B H (RV (.str (settle rows kn))) Q
theorem ok_w_settled (T : Txt K mg) : FnOk P w K mg base CX0 2 (a_w_settled K) (fdOf K (a_w_settled K)) ["_law_rows_here", "_law_known_here"] (sp_settled K) := by
  refine (f_w_settled T).ok sc_w_settled (fun vs H Q E h => ?_) (fun cdv A outer s H vs Q E hr h => ?_)
  · obtain ⟨B, v, e, rows, kn, rfl, _⟩ := h
    rfl
  · obtain ⟨B, v, e, rows, kn, rfl, ⟨L, ys, rfl, hL, hP⟩, he, hsub, nd, hkl, hrl, sm, k⟩ := h
    refine ⟨_, (pss_cons (ps_set (i := 2) sc_w_settled.nd rfl (Or.inl rfl) (pe_callB (cr_sortSet rfl) (by rfl) (n_sorted T) (by decide +kernel) (pa_cons (pe_callTy (cr_setS rfl) (by rfl) (n_set T) (by decide +kernel) (pa_cons (pe_lc (own := [("_law_answers", 3), ("_law_where_here", 4)]) (by rfl) sc_w_settled.nd (pi_list (pv 0)) (blkOk_by (own := [("_law_answers", 3), ("_law_where_here", 4)]) (N := N_w_settled) (sc := defScope s_w_settled) (by decide +kernel)) (fun _ _ _ _ _ => (pg_tupB K 2 rfl (pgs_cons (pg_name (i := 3) sc_w_settled.nd rfl (Or.inl rfl)) (pgs_cons (pg_name (i := 4) sc_w_settled.nd rfl (Or.inl rfl)) pgs_nil)))) (fun _ _ _ _ _ => (pts_one (pt_val (pe_call (ok_w_agree T) (hr.mono (by decide)) (by rfl) (g_w_agree T) (f_w_agree T).kp (b_w_agree T) .nil pass0 (pa_cons (pv 3) (pa_cons (pv 1) pa_nil)))))) (fun _ _ _ _ _ => (pv 4))) pa_nil)) pa_nil))) (pss_one (ps_ret (pe_ifExp (pt_cmpR op_eq (pe_callB call_len_seq (by rfl) (n_len T) (by decide +kernel) (pa_cons (pv 2) pa_nil)) pe_int (nomark _)) (pe_ix ix_list (pv 2) pe_int (fun _ _ => rfl)) pe_str)))), ?_⟩
    have hfl : ((rows.filter fun r => agree r.1 kn).map (·.2)).length ≤ 4000 := by rw [List.length_map]; exact Nat.le_trans (List.length_filter_le ..) hrl
    refine ⟨_, rfl, L, rfl, ⟨ys, SqL.of (sm _ _ hL)⟩, fun D hD => ?_⟩
    refine lc_dat (walk_list (xs := ys)) (M := M0) (B1 := B) rows (fun r => agree r.1 kn) (rRow K) (fun r => RV (.str r.2)) mono_row (fun _ => mono_v _) hP rfl sm hD mok0 (by omega) (fun B2 H2 g => sqL_B g hL) (fun r x B2 H2 hr2 hx g Ky Kn ky kn2 => ?_) (fun zs B2 H2 g hz hP2 => ?_)
    · obtain ⟨t, d, rfl, ht, hd⟩ := hx
      refine ⟨t, _, rfl, sqT_same g.sub ht, rfl, _, _, rfl, _, _, rfl, rfl, rfl, ?_⟩
      refine ⟨_, rfl, _, rfl, B2, d, e, r.1, kn, rfl, hd, g.base _ _ he, hsub r hr2, nd, hkl, g.sub, fun v B3 H3 g3 ev => ?_⟩
      cases ev
      refine ⟨_, rfl, ?_⟩
      cases c : agree r.1 kn with
      | true => exact iteT ⟨_, rfl, ky c _ _ _ g3 rfl⟩
      | false => exact iteF (kn2 c _ _ g3)
    · have e2 := PairR.of_consts (fun r : Ans × Str => V.str r.2) hP2
      subst e2
      have hz' : (List.map (fun r : Ans × Str => V.str r.2) (rows.filter fun r => agree r.1 kn)) = ((rows.filter fun r => agree r.1 kn).map (·.2)).map V.str := by
        rw [List.map_map]
        rfl
      rw [hz'] at hz
      refine ⟨D, _, rfl, .inl (SqL.of (g.sub _ _ hz)), hfl, fun p hp => ?_⟩
      have g1 := g.then0 (Gr.hid (o := SetSO w p ((rows.filter fun r => agree r.1 kn).map (·.2))) g.sub hp)
      refine ⟨p, _, rfl, upd_same, hfl, fun q hq => ?_⟩
      have g2 := g1.then0 (Gr.hid (o := .lst ((sortS ((rows.filter fun r => agree r.1 kn).map (·.2))).map V.str)) g1.sub hq)
      generalize hxs : sortS ((rows.filter fun r => agree r.1 kn).map (·.2)) = xs at g2
      have hset := settle_eq rows kn xs hxs
      refine ⟨_, rfl, q, _, rfl, .inl (SqL.of upd_same), rfl, ?_⟩
      by_cases c : xs.length = 1
      · obtain ⟨x, rfl⟩ : ∃ x, xs = [x] := by
          match xs, c with
          | [x], _ => exact ⟨x, rfl⟩
        refine ⟨true, rfl, iteT ⟨_, rfl, q, _, 0, .str x, rfl, rfl, SqL.of upd_same, rfl, ?_⟩⟩
        exact k _ _ _ g2 (by rw [hset]; rfl)
      · refine ⟨false, ?_, iteF ?_⟩
        · show V.bl (decide (V.int ((xs.map V.str).length : Int) = V.int 1)) = V.bl false
          rw [decide_eq_false]
          intro z
          injection z with z
          rw [List.length_map] at z
          omega
        · have : settle rows kn = "open" := by
            rw [hset]
            clear hset hxs g2
            match xs, c with
            | [], _ => rfl
            | [x], c => exact absurd rfl c
            | _ :: _ :: _, _ => rfl
          rw [this] at k
          exact k _ _ _ g2 rfl
/-- a pair of texts -/
def rPr (K : PySem.W.Frag) (p : Str × Str) : Rp := fun v B => ∃ t, v = .ref t ∧ SqT K B t [.str p.1, .str p.2]
theorem mono_pr (p : Str × Str) : Mono (rPr K p) := fun _ _ _ s ⟨t, e, h⟩ => ⟨t, e, sqT_same s h⟩
theorem pr_paired {B H : Hp} (sm : Same B H) : ∀ {kn : Ans} {ys : List V}, PairR (kn.map (rPr K)) ys B → ∃ ps : List Addr, ys = ps.map V.ref ∧ Paired (fun p kv => SqT K H p [kV kv.1, kv.2]) ps (ansV kn)
  | [], [], _ => ⟨[], rfl, .nil⟩
  | p :: kn, y :: ys, h => by
    obtain ⟨⟨t, rfl, ht⟩, h2⟩ := h
    obtain ⟨ps, rfl, hp⟩ := pr_paired sm h2
    exact ⟨t :: ps, rfl, .cons (sqT_same sm ht) hp⟩
  | [], _ :: _, h => h.elim
  | _ :: _, [], h => h.elim
theorem merge_ans : ∀ (b a : Ans), ((a ++ b).map (·.1)).Nodup → mergeK (ansV a) (ansV b) = ansV (a ++ b)
  | [], a, _ => by rw [List.append_nil]; rfl
  | p :: b, a, nd => by
    have e : a ++ p :: b = (a ++ [p]) ++ b := by simp
    have fr : ∀ r ∈ ansV a, r.1 ≠ Sum.inr p.1 := by
      intro r hr hrq
      unfold ansV at hr
      obtain ⟨r0, hr0, rfl⟩ := List.mem_map.mp hr
      have e0 : r0.1 = p.1 := by injection hrq
      rw [List.map_append, List.map_cons] at nd
      exact (List.nodup_append.mp nd).2.2 r0.1 (List.mem_map_of_mem hr0) p.1 (by simp) e0
    show mergeK (putK (ansV a) (Sum.inr p.1) (V.str p.2)) (ansV b) = _
    rw [putK_fresh fr, e]
    have e2 : ansV a ++ [(Sum.inr p.1, V.str p.2)] = ansV (a ++ [p]) := by unfold ansV; rw [List.map_append]; rfl
    rw [e2]
    exact merge_ans b (a ++ [p]) (by rw [← e]; exact nd)
theorem merge_ans0 {kn : Ans} (nd : (kn.map (·.1)).Nodup) : mergeK [] (ansV kn) = ansV kn := merge_ans kn [] nd
def sp_known (K : PySem.W.Frag) : Sp := fun vs H Q _ => ∃ (B : Hp) (r l : Addr) (rv : V) (rows : Rows) (names : List Str), vs = [.ref r, rv, .ref l] ∧ Wr K B H r ∧ RLst (rows.map (rRow K)) rv B ∧ B l = some (.lst (names.map V.str)) ∧ names.Nodup ∧ names.length ≤ 6 ∧ (∀ x ∈ rows, x.1.map (·.1) = names) ∧ rows.length ≤ 4000 ∧ Same B H ∧
  (∀ e kn B' H', Gr (fun z => z = r) B H B' H' → Wr K B' H' r → H e = none → B' e = none → H' e = some (.dK (ansV kn)) → (kn.map (·.1)).Nodup → (∀ p ∈ kn, p.1 ∈ names ∧ p.2 ∈ results) → kn.length ≤ 6 → settle rows kn ≠ "open" → Q (.ref e) H') ∧
  (∀ B' H', Gr (fun z => z = r) B H B' H' → Wr K B' H' r → Q .non H')
theorem ok_w_known (T : Txt K mg) : FnOk P w K mg base CX0 3 (a_w_known K) (fdOf K (a_w_known K)) ["_law_row", "_law_rows_here", "_law_names"] (sp_known K) := by
  refine (f_w_known T).ok sc_w_known (fun vs H Q E h => ?_) (fun cdv A outer s0 H vs Q E hr h => ?_)
  · obtain ⟨B, r, l, rv, rows, names, rfl, _⟩ := h
    rfl
  · obtain ⟨B, r, l, rv, rows, names, rfl, hW, hrv, hl, nd, h6, hrw, hrl, sm, k1, k2⟩ := h
    refine ⟨_, (pss_cons (ps_set (i := 3) sc_w_known.nd rfl (Or.inl rfl) (pe_callTy (call_dictP rfl) (by rfl) (n_dict T) (by decide +kernel) (pa_cons (pe_lc (own := [("_law_name", 4)]) (by rfl) sc_w_known.nd (pi_list (pv 2)) (blkOk_by (own := [("_law_name", 4)]) (N := N_w_known) (sc := defScope s_w_known) (by decide +kernel)) (fun _ _ _ _ _ => (pg_name (i := 4) sc_w_known.nd rfl (Or.inl rfl))) (fun _ _ _ _ _ => (pts_one (pt_cmpR op_gt (pe_call (ok_w_taken T) (hr.mono (by decide)) (by rfl) (g_w_taken T) (f_w_taken T).kp (b_w_taken T) .nil pass0 (pa_cons (pv 0) (pa_cons pe_int pa_nil))) pe_int (nomark _)))) (fun _ _ _ _ _ => (pe_tup (pa_cons (pv 4) (pa_cons (pe_call (ok_w_pick T) (hr.mono (by decide)) (by rfl) (g_w_pick T) (f_w_pick T).kp (b_w_pick T) .nil pass0 (pa_cons (pv 0) (pa_cons (pe_lst (pa_cons pe_str (pa_cons pe_str (pa_cons pe_str (pa_cons pe_str pa_nil))))) pa_nil))) pa_nil))))) pa_nil))) (pss_one (ps_ret (pe_ifExp (pt_cmpR op_ne (pe_call (ok_w_settled T) (hr.mono (by decide)) (by rfl) (g_w_settled T) (f_w_settled T).kp (b_w_settled T) .nil pass0 (pa_cons (pv 1) (pa_cons (pv 3) pa_nil))) pe_str (nomark _)) (pv 3) pe_non)))), ?_⟩
    refine ⟨_, rfl, l, rfl, ⟨_, SqL.of (sm _ _ hl)⟩, fun D hDn => ?_⟩
    have nDr : D ≠ r := hW.ne hDn
    have hnl : (names.map V.str).length = names.length := List.length_map ..
    refine lc_inv (walk_list (K := K) (a := l) (xs := names.map V.str)) (M := fun z => z = r) (B1 := B) (fun B' H' => Wr K B' H' r) (fun i ys B' => ∃ kn : Ans, PairR (kn.map (rPr K)) ys B' ∧ ((kn.map (·.1)).Sublist (names.take i)) ∧ ∀ p ∈ kn, p.2 ∈ results) sm hDn hW.mok (line_lt (by omega)) (fun B2 H2 g => sqL_B g hl) hW ⟨[], trivial, List.Sublist.slnil, fun _ h => nomatch h⟩ (fun _ _ _ h => h.upd nDr) (fun i ys B' B'' s ⟨kn, h1, h2, h3⟩ => ⟨kn, h1.mono s (mem_map_mono mono_pr), h2, h3⟩) (fun i x B' H' H2 hi g hW' y Ky Kn ky kn => ?_) (fun ys B' H' g hW' hbD hD hlen hP => ?_)
    · obtain ⟨rfl, hx⟩ := y
      obtain ⟨nm, hnm, rfl⟩ : ∃ nm, names[i]? = some nm ∧ x = V.str nm := by
        rw [List.getElem?_map] at hx
        cases q : names[i]? with
        | none => rw [q] at hx; cases hx
        | some nm => rw [q] at hx; exact ⟨nm, rfl, (Option.some.inj hx).symm⟩
      have htk : names.take (i + 1) = names.take i ++ [nm] := by rw [List.take_succ, hnm]; rfl
      refine ⟨rfl, _, rfl, B', r, 3, rfl, hW', by decide, by decide, g.sub, fun j B3 H3 g3 hW3 j0 j1 => ⟨j, 0, rfl, rfl, _, rfl, ?_⟩⟩
      by_cases c : (0 : Int) < j
      · rw [decide_eq_true c]
        refine iteT ⟨_, rfl, _, rfl, line_le (show 4 ≤ 1000000 by decide), fun q hq => ?_⟩
        have l4 := Gr.lay (M := M0) (o := .lst [.str "yes", .str "no", .str "skip", .str "gone"]) g3.sub hq
        refine ⟨_, r, q, [.str "yes", .str "no", .str "skip", .str "gone"], rfl, hW3.go0 l4, SqL.of upd_same, (show 0 < 4 by decide), (show 4 ≤ 1000000 by decide), l4.sub, fun y B5 H5 g5 hW5 hy => ⟨line_le (show 2 ≤ 1000000 by decide), fun t ht => ?_⟩⟩
        obtain ⟨z, hz, rfl⟩ : ∃ z, z ∈ results ∧ y = V.str z := by
          simp only [List.mem_cons, List.not_mem_nil, or_false] at hy
          rcases hy with rfl | rfl | rfl | rfl
          · exact ⟨"yes", by decide, rfl⟩
          · exact ⟨"no", by decide, rfl⟩
          · exact ⟨"skip", by decide, rfl⟩
          · exact ⟨"gone", by decide, rfl⟩
        have l6 := Gr.lay (M := M0) (o := .tup [.str nm, .str z]) g5.sub ht
        have gT : Gr (fun z => z = r) B' H2 _ _ := Gr.trans hW'.mok (Gr.trans hW'.mok (Gr.trans hW'.mok g3 l4.up) g5) l6.up
        refine ky _ _ _ gT (hW5.go0 l6) (fun ys ⟨kn, h1, h2, h3⟩ => ⟨kn ++ [(nm, z)], ?_, ?_, fun p hp => ?_⟩)
        · rw [List.map_append]
          exact PairR.snoc (h1.mono gT.base (mem_map_mono mono_pr)) ⟨t, rfl, .inl (.inl upd_same)⟩
        · rw [List.map_append, htk]
          exact h2.append (List.Sublist.refl _)
        · rcases List.mem_append.mp hp with h | h
          · exact h3 p h
          · rw [List.mem_singleton.mp h]; exact hz
      · rw [decide_eq_false c]
        refine iteF (kn _ _ g3 hW3 (fun ys ⟨kn, h1, h2, h3⟩ => ⟨kn, h1.mono g3.base (mem_map_mono mono_pr), ?_, h3⟩))
        rw [htk]
        exact h2.trans (List.sublist_append_left _ _)
    · obtain ⟨kn, hP1, hsl, hres⟩ := hP
      rw [hnl, List.take_length] at hsl
      have ndk : (kn.map (·.1)).Nodup := hsl.nodup nd
      have hkl : kn.length ≤ 6 := by have := hsl.length_le; rw [List.length_map] at this; omega
      obtain ⟨ps, rfl, hps⟩ := pr_paired g.sub hP1
      refine ⟨D, ps, ansV kn, rfl, SqL.of hD, hps, fun e he => ?_⟩
      rw [merge_ans0 ndk]
      have hbe : B' e = none := g.sub.free he
      have hHe : H e = none := g.there' he
      have gE := Gr.trans hW.mok g (Gr.hid (o := .dK (ansV kn)) g.sub he)
      have hWE := hW'.go0 (Gr.hid (M := M0) (o := .dK (ansV kn)) g.sub he)
      obtain ⟨L, ws, rfl, hL, hLP⟩ := id hrv
      have sB : Same B' (upd B' e (.dK (ansV kn))) := fun a u z => by rw [upd_ne (ne_of_none z hbe)]; exact z
      have smE : Same (upd B' e (.dK (ansV kn))) (upd H' e (.dK (ansV kn))) := fun a u z => by
        by_cases q : a = e
        · rw [q, upd_same] at z; cases z; rw [q]; exact upd_same
        · rw [upd_ne q] at z ⊢; exact g.sub _ _ z
      have hsub : ∀ x ∈ rows, Sub kn x.1 := fun x hx p hp => by
        rw [hrw x hx]
        exact hsl.subset (List.mem_map_of_mem hp)
      refine ⟨_, rfl, _, rfl, upd B' e (.dK (ansV kn)), .ref L, e, rows, kn, rfl, mono_lst (mem_map_mono mono_row) _ _ _ (g.base.trans sB) hrv, upd_same, hsub, ndk, by omega, hrl, smE, fun v B5 H5 g5 hv => ?_⟩
      cases hv
      have gU : Gr M0 B' (upd H' e (.dK (ansV kn))) (off B5 e) H5 := g5.untell hbe upd_same
      have gF := Gr.trans hW.mok gE gU.up
      have hWF := hWE.go0 gU
      refine ⟨rfl, _, rfl, ?_⟩
      by_cases c : settle rows kn = "open"
      · rw [c]
        exact iteF (k2 _ _ gF hWF)
      · have e3 : (!decide (V.str (settle rows kn) = V.str "open")) = true := by
          rw [sEq2, beq_false_of_ne c]
          rfl
        rw [e3]
        exact iteT ⟨_, rfl, k1 e kn _ _ gF hWF hHe off_same (g5.same _ _ upd_same) ndk (fun p hp => ⟨hsl.subset (List.mem_map_of_mem hp), hres p hp⟩) hkl c⟩
end
end Lg
/-! D27 -/
set_option maxHeartbeats 4000000
namespace Lg
open PySem L2
section
variable {P : Program} {w : World} {K : PySem.W.Frag} {mg : Str → Option Value} {base : Heap}
def stepT (found : List (List Str)) : List (List Str) := found.flatMap fun t => results.map fun r => t ++ [r]
def allTup : Nat → List (List Str)
  | 0 => [[]]
  | n + 1 => stepT (allTup n)
theorem allTup_len : ∀ n, ∀ t ∈ allTup n, t.length = n
  | 0, t, h => by
    rw [List.mem_singleton.mp h]; rfl
  | n + 1, t, h => by
    obtain ⟨t0, h0, h1⟩ := List.mem_flatMap.mp h
    obtain ⟨r, _, rfl⟩ := List.mem_map.mp h1
    rw [List.length_append, allTup_len n t0 h0]
    rfl
theorem stepT_size (found : List (List Str)) : (stepT found).length = found.length * 4 := by
  unfold stepT
  rw [List.length_flatMap]
  simp only [List.length_map]
  show (found.map fun _ => 4).sum = _
  induction found with
  | nil => rfl
  | cons x xs ih =>
    rw [List.map_cons, List.sum_cons, ih, List.length_cons]
    omega
theorem allTup_size : ∀ n, (allTup n).length = 4 ^ n
  | 0 => rfl
  | n + 1 => by
    show (stepT (allTup n)).length = _
    rw [stepT_size, allTup_size n, Nat.pow_succ]
theorem fm_congr {α β : Type} {f g : α → List β} : ∀ {L : List α}, (∀ t ∈ L, f t = g t) → L.flatMap f = L.flatMap g
  | [], _ => rfl
  | x :: L, h => by
    rw [List.flatMap_cons, List.flatMap_cons, h x List.mem_cons_self, fm_congr fun t ht => h t (List.mem_cons_of_mem _ ht)]
theorem allTup_zip (names : List Str) : ∀ i, i ≤ names.length → allAns (names.take i) = (allTup i).map fun t => (names.take i).zip t := by
  intro i
  induction i with
  | zero => intro _; rfl
  | succ i ih =>
    intro hi
    obtain ⟨x, hx⟩ : ∃ x, names[i]? = some x := ⟨names[i], List.getElem?_eq_getElem (by omega)⟩
    rw [allAns_take hx, ih (by omega)]
    unfold stepA
    show _ = (stepT (allTup i)).map _
    unfold stepT
    rw [List.flatMap_map, List.map_flatMap]
    refine fm_congr fun t ht => ?_
    rw [List.map_map]
    refine List.map_congr_left fun r _ => ?_
    show (names.take i).zip t ++ [(x, r)] = (names.take (i + 1)).zip (t ++ [r])
    have hl := allTup_len i t ht
    rw [List.take_succ, hx, List.zip_append (by rw [List.length_take, hl]; omega)]
    rfl
/-- a tuple of texts -/
def rTs (K : PySem.W.Frag) (t : List Str) : Rp := fun v B => ∃ p, v = .ref p ∧ SqT K B p (t.map V.str)
theorem mono_ts (t : List Str) : Mono (rTs K t) := fun _ _ _ s ⟨p, e, h⟩ => ⟨p, e, sqT_same s h⟩
def sp_all (K : PySem.W.Frag) : Sp := fun vs H Q _ => ∃ (B : Hp) (l : Addr) (names : List Str), vs = [.ref l] ∧ B l = some (.lst (names.map V.str)) ∧ names.Nodup ∧ names.length ≤ 6 ∧ Same B H ∧ Ret B H (RLst ((allAns names).map rAns)) Q
theorem ok_w_all (T : Txt K mg) : FnOk P w K mg base CX0 1 (a_w_all K) (fdOf K (a_w_all K)) ["_law_names"] (sp_all K) := by
  refine (f_w_all T).ok sc_w_all (fun vs H Q E h => ?_) (fun cdv A outer s0 H vs Q E hr h => ?_)
  · obtain ⟨B, l, names, rfl, _⟩ := h
    rfl
  · obtain ⟨B, l, names, rfl, hl, nd, h6, sm, k⟩ := h
    refine ⟨_, (pss_cons (ps_set (i := 1) sc_w_all.nd rfl (Or.inl rfl) (pe_lst (pa_cons (pe_tup pa_nil) pa_nil))) (pss_cons (ps_for PassesOwn.never rfl (pi_list (pv 0)) (pg_name (i := 2) sc_w_all.nd rfl (Or.inl rfl)) (pss_cons (ps_set (i := 3) sc_w_all.nd rfl (Or.inl rfl) (pe_lst pa_nil)) (pss_cons (ps_for PassesOwn.never rfl (pi_list (pv 1)) (pg_name (i := 4) sc_w_all.nd rfl (Or.inr rfl)) (pss_one (ps_set (i := 3) sc_w_all.nd rfl (Or.inl rfl) (pe_op op_cat (pv 3) (pe_lc (own := [("_law_result", 5)]) (by rfl) sc_w_all.nd (pi_tup (pe_tup (pa_cons pe_str (pa_cons pe_str (pa_cons pe_str (pa_cons pe_str pa_nil)))))) (blkOk_by (own := [("_law_result", 5)]) (N := N_w_all) (sc := defScope s_w_all) (by decide +kernel)) (fun _ _ _ _ _ => (pg_name (i := 5) sc_w_all.nd rfl (Or.inl rfl))) (fun _ _ _ _ _ => pts_nil) (fun _ _ _ _ _ => (pe_op (opB K op_addU) (pv 4) (pe_tup (pa_cons (pv 5) pa_nil))))))))) (pss_one (ps_set (i := 1) sc_w_all.nd rfl (Or.inl rfl) (pv 3)))))) (pss_one (ps_ret (pe_lc (own := [("_law_some", 4)]) (by rfl) sc_w_all.nd (pi_list (pv 1)) (blkOk_by (own := [("_law_some", 4)]) (N := N_w_all) (sc := defScope s_w_all) (by decide +kernel)) (fun _ _ _ _ _ => (pg_name (i := 4) sc_w_all.nd rfl (Or.inl rfl))) (fun _ _ _ _ _ => pts_nil) (fun _ _ _ _ _ => (pe_dictZipB K rfl (by rfl) (n_dict T) (by rfl) (n_zip T) (pa_cons (pv 0) (pa_cons (pv 4) pa_nil))))))))), ?_⟩
    refine ⟨line_le (show 0 ≤ 1000000 by decide), fun t0 ht0 => ⟨line_le (show 1 ≤ 1000000 by decide), fun f0 hf0 => ?_⟩⟩
    have l1 := Gr.lay (M := M0) (o := .tup []) sm ht0
    have l2 := Gr.lay (M := M0) (o := .lst [.ref t0]) l1.sub hf0
    have g0 := l1.then0 l2
    refine ⟨_, rfl, l, rfl, ⟨_, SqL.of (g0.sub _ _ (g0.base _ _ hl))⟩, ?_⟩
    have hnl : (names.map V.str).length = names.length := List.length_map ..
    refine for_it (walk_list (K := K) (a := l) (xs := names.map V.str)) (fun i σ H' => ∃ B' fv x2 x3 x4, Gr M0 B H B' H' ∧ RLst ((allTup i).map (rTs K)) fv B' ∧ σ = [some (.ref l), some fv, x2, x3, x4, none]) ⟨_, .ref f0, none, none, none, g0, ⟨f0, _, rfl, upd_same, ⟨t0, rfl, .inl (.inl (l2.base _ _ upd_same))⟩, trivial⟩, rfl⟩ (fun i σ H' hi pv => ?_) (fun i x σ H' H2 hi pv y => ?_) (fun σ H' pv => ?_)
    · obtain ⟨B', fv, x2, x3, x4, g, _⟩ := pv
      exact sqL_B g hl
    · obtain ⟨B', fv, x2, x3, x4, g, hf, rfl⟩ := pv
      obtain ⟨rfl, hx⟩ := y
      have hi6 : i < 6 := by omega
      have h4 : (allTup i).length ≤ 1024 := by rw [allTup_size]; exact Nat.le_trans (Nat.pow_le_pow_right (by decide) (show i ≤ 5 by omega)) (by decide)
      refine ⟨line_le (show 0 ≤ 1000000 by decide), fun q hq => ?_⟩
      have lq := Gr.lay (M := M0) (o := .lst []) g.sub hq
      have gq := g.then0 lq
      obtain ⟨fp, fys, rfl, hfp, hfP⟩ := id hf
      have hfl : fys.length = (allTup i).length := by have := hfP.length; rw [List.length_map] at this; exact this.symm
      refine ⟨_, rfl, fp, rfl, ⟨fys, SqL.of (gq.sub _ _ (lq.base _ _ hfp))⟩, ?_⟩
      refine for_it (walk_list (K := K) (a := fp) (xs := fys)) (fun j σ H' => ∃ B3 lv x4, Gr M0 B' H2 B3 H' ∧ RLst ((stepT ((allTup i).take j)).map (rTs K)) lv B3 ∧ σ = [some (.ref l), some (.ref fp), some x, some lv, x4, none]) ⟨_, .ref q, x4, lq, ⟨q, [], rfl, upd_same, trivial⟩, rfl⟩ (fun j σ H' hj pv => ?_) (fun j y σ H' H4 hj pv yy => ?_) (fun σ H' pv => ?_)
      · obtain ⟨B3, lv, x4, g3, _⟩ := pv
        exact sqL_B g3 hfp
      · obtain ⟨B3, lv, x4, g3, hlv, rfl⟩ := pv
        obtain ⟨rfl, hy⟩ := yy
        obtain ⟨R, hR, hyR⟩ := hfP.at_ hy
        obtain ⟨t, ht, rfl⟩ : ∃ t, (allTup i)[j]? = some t ∧ R = rTs K t := by
          rw [List.getElem?_map] at hR
          cases c : (allTup i)[j]? with
          | none => rw [c] at hR; cases hR
          | some e => rw [c] at hR; exact ⟨e, rfl, (Option.some.inj hR).symm⟩
        have htl := allTup_len i t (List.mem_of_getElem? ht)
        obtain ⟨tp, rfl, htp⟩ := mono_ts (K := K) t _ _ _ g3.base hyR
        refine ⟨_, rfl, line_le (show 4 ≤ 1000000 by decide), fun rt hrt => ?_⟩
        have lr := Gr.lay (M := M0) (o := .tup [.str "yes", .str "no", .str "skip", .str "gone"]) g3.sub hrt
        refine ⟨rt, rfl, ⟨_, .inl (.inl upd_same)⟩, fun D hDn => ?_⟩
        refine lc_dat (walk_tup (K := K) (a := rt) (xs := [.str "yes", .str "no", .str "skip", .str "gone"])) (M := M0) (B1 := upd B3 rt _) results (fun _ => true) (fun r => RV (.str r)) (fun r => rTs K (t ++ [r])) (fun _ => mono_v _) (fun r => mono_ts _) ⟨rfl, rfl, rfl, rfl, trivial⟩ rfl lr.sub hDn mok0 (show 4 ≤ 1000000 by decide) (fun B5 H5 g5 => sqT_B g5 (.inl (.inl upd_same))) (fun r v B5 H5 hr2 hv g5 Ky Kn ky kn => ?_) (fun zs B5 H5 g5 hz hP2 => ?_)
        · cases hv
          refine ⟨rfl, _, rfl, _, rfl, line_le (show 1 ≤ 1000000 by decide), fun o1 ho1 => ?_⟩
          have l6 := Gr.lay (M := M0) (o := .tup [.str r]) g5.sub ho1
          refine .inr (.inr (catA_rep l6.sub (sqT_same (lr.base.trans (g5.base.trans l6.base)) htp) (.inl (.inl upd_same)) (by rw [List.length_map, htl]; show i + 1 ≤ 1000000; omega) fun rr B7 H7 g7 hrr => ?_))
          refine ky rfl _ _ _ (l6.then0 g7) ⟨rr, rfl, ?_⟩
          rw [List.map_append]
          exact hrr
        · rw [filter_all] at hP2
          have gD : Gr M0 B3 H4 B5 H5 := lr.then0 g5
          refine catL_rep gD.sub (mono_lst (mem_map_mono mono_ts) _ _ _ gD.base hlv) ⟨D, zs, rfl, hz, hP2⟩ (fun R hR => ?_) ?_ (fun v B7 H7 g7 hv => ⟨B7, v, _, g3.then0 (gD.then0 g7), ?_, rfl⟩)
          · rcases List.mem_append.mp hR with h | h
            · exact mem_map_mono mono_ts R h
            · exact mem_map_mono (fun r => mono_ts (t ++ [r])) R h
          · have e4 : results.length = 4 := rfl
            rw [List.length_map, List.length_map, e4, stepT_size, List.length_take]
            omega
          · have e : stepT ((allTup i).take (j + 1)) = stepT ((allTup i).take j) ++ results.map fun r => t ++ [r] := by
              unfold stepT
              rw [List.take_succ, ht, List.flatMap_append]
              simp
            rw [e, List.map_append, List.map_map]
            exact hv
      · obtain ⟨B3, lv, x4, g3, hlv, rfl⟩ := pv
        rw [hfl, List.take_length] at hlv
        exact ⟨_, rfl, B3, lv, _, _, _, g.then0 g3, hlv, rfl⟩
    · obtain ⟨B', fv, x2, x3, x4, g, hf, rfl⟩ := pv
      rw [hnl] at hf
      obtain ⟨fp, fys, rfl, hfp, hfP⟩ := hf
      refine ⟨_, rfl, fp, rfl, ⟨fys, SqL.of (g.sub _ _ hfp)⟩, fun D hDn => ?_⟩
      have h4 : (allTup names.length).length ≤ 4096 := by rw [allTup_size]; exact Nat.le_trans (Nat.pow_le_pow_right (by decide) h6) (by decide)
      refine lc_dat (walk_list (K := K) (a := fp) (xs := fys)) (M := M0) (B1 := B') (allTup names.length) (fun _ => true) (rTs K) (fun t => rAns (names.zip t)) mono_ts (fun _ => mono_ans _) hfP rfl g.sub hDn mok0 (by omega) (fun B5 H5 g5 => sqL_B g5 hfp) (fun t v B5 H5 ht hv g5 Ky Kn ky kn => ?_) (fun zs B5 H5 g5 hz hP2 => ?_)
      · obtain ⟨tp, rfl, htp⟩ := hv
        have htl := allTup_len _ t ht
        refine ⟨rfl, _, rfl, _, rfl, l, tp, names, t, rfl, SqL.of (g5.sub _ _ (g5.base _ _ (g.base _ _ hl))), sqT_same g5.sub htp, htl.symm, by omega, fun q hq => ?_⟩
        have hm : mergeK [] ((names.zip t).map fun z => ((Sum.inr z.1 : Key), V.str z.2)) = ansV (names.zip t) := merge_ans0 (by
          rw [List.map_fst_zip (by omega)]
          exact nd)
        rw [hm]
        exact ky rfl _ _ _ (Gr.lay g5.sub hq) ⟨q, rfl, upd_same⟩
      · rw [filter_all] at hP2
        refine k _ _ _ (g.then0 g5) ⟨D, zs, rfl, hz, ?_⟩
        have e := allTup_zip names names.length (Nat.le_refl _)
        rw [List.take_length] at e
        rw [e, List.map_map]
        exact hP2
end
end Lg
/-! D28 -/
set_option maxHeartbeats 4000000
namespace Lg
open PySem L2
section
variable {P : Program} {w : World} {K : PySem.W.Frag} {mg : Str → Option Value} {base : Heap}
def sp_rowsL (K : PySem.W.Frag) : Sp := fun vs H Q _ => ∃ (B : Hp) (v : V) (es : List En), vs = [v] ∧ rPlain K es v B ∧ OkS es ∧ Same B H ∧ Ret B H (RLst ((rowsOf es).map (rRow K))) Q
theorem ok_w_rows (T : Txt K mg) : FnOk P w K mg base CX0 7 (a_w_rows K) (fdOf K (a_w_rows K)) ["_law_plain_here"] (sp_rowsL K) := by
  refine (f_w_rows T).ok sc_w_rows (fun vs H Q E h => ?_) (fun cdv A outer s0 H vs Q E hr h => ?_)
  · obtain ⟨B, v, es, rfl, _⟩ := h
    rfl
  · obtain ⟨B, v, es, rfl, hv, ok, sm, k⟩ := h
    refine ⟨_, (pss_one (ps_ret (pe_lc (own := [("_law_answers", 1)]) (by rfl) sc_w_rows.nd (pi_list (pe_call (ok_w_all T) (hr.mono (by decide)) (by rfl) (g_w_all T) (f_w_all T).kp (b_w_all T) .nil pass0 (pa_cons (pe_call (ok_w_modules T) (hr.mono (by decide)) (by rfl) (g_w_modules T) (f_w_modules T).kp (b_w_modules T) .nil pass0 (pa_cons (pv 0) pa_nil)) pa_nil))) (blkOk_by (own := [("_law_answers", 1)]) (N := N_w_rows) (sc := defScope s_w_rows) (by decide +kernel)) (fun _ _ _ _ _ => (pg_name (i := 1) sc_w_rows.nd rfl (Or.inl rfl))) (fun _ _ _ _ _ => pts_nil) (fun _ _ _ _ _ => (pe_tup (pa_cons (pv 1) (pa_cons (pe_call (ok_w_where T) (hr.mono (by decide)) (by rfl) (g_w_where T) (f_w_where T).kp (b_w_where T) .nil pass0 (pa_cons (pv 0) (pa_cons (pv 1) pa_nil))) pa_nil))))))), ?_⟩
    have h12 := ok.len
    have hrl := ok.rl
    refine ⟨_, rfl, B, v, es, rfl, hv, by omega, by omega, sm, fun mv B1 H1 g1 hm => ?_⟩
    obtain ⟨mp, rfl, hmp⟩ := hm
    refine ⟨B1, mp, modsOf es, rfl, hmp, nodup_sortS _, ok.ml, g1.sub, fun av B2 H2 g2 hav => ?_⟩
    obtain ⟨ap, ays, rfl, hap, haP⟩ := hav
    have gA := g1.then0 g2
    refine ⟨ap, rfl, ⟨ays, SqL.of (g2.sub _ _ hap)⟩, fun D hDn => ?_⟩
    have hal : (allAns (modsOf es)).length ≤ 4096 := by
      have e := allAns_len (modsOf es) _ (Nat.le_refl _)
      rw [List.take_length] at e
      rw [e]
      exact Nat.le_trans (Nat.pow_le_pow_right (by decide) ok.ml) (by decide)
    refine lc_dat (walk_list (K := K) (a := ap) (xs := ays)) (M := M0) (B1 := B2) (allAns (modsOf es)) (fun _ => true) rAns (fun a => rRow K (a, leads es a)) mono_ans (fun _ => mono_row _) haP rfl g2.sub hDn mok0 (by omega) (fun B5 H5 g5 => sqL_B g5 hap) (fun a x B5 H5 ha hx g5 Ky Kn ky kn => ?_) (fun zs B5 H5 g5 hz hP2 => ?_)
    · obtain ⟨d, rfl, hd⟩ := hx
      refine ⟨rfl, _, rfl, _, rfl, _, rfl, B5, v, d, es, a, rfl, mono_plain _ _ _ _ (gA.base.trans g5.base) hv, hd, ok, cov_all ha (fun _ => mods_mem), g5.sub, fun u B6 H6 g6 hu => ?_⟩
      cases hu
      refine ⟨line_le (show 2 ≤ 1000000 by decide), fun t ht => ?_⟩
      have l := Gr.lay (M := M0) (o := .tup [.ref d, .str (leads es a)]) g6.sub ht
      exact ky rfl _ _ _ (g6.then0 l) ⟨t, d, rfl, .inl (.inl upd_same), l.base _ _ (g6.base _ _ hd)⟩
    · rw [filter_all] at hP2
      refine k _ _ _ (gA.then0 g5) ⟨D, zs, rfl, hz, ?_⟩
      unfold rowsOf
      rw [List.map_map]
      exact hP2
/-- what the law says is broken -/
def brk (es : List En) (vs : Vows) : V := match broken es vs with
  | some i => .int i
  | none => .non
def sp_broken (K : PySem.W.Frag) : Sp := fun vs H Q _ => ∃ (B : Hp) (v u : V) (es : List En) (vw : Vows), vs = [v, u] ∧ rPlain K es v B ∧ RLst (vw.map (rRow K)) u B ∧ OkS es ∧ vw.length ≤ 1000 ∧ (∀ x ∈ vw, x.1.length ≤ 1000 ∧ (x.1.map (·.1)).Nodup) ∧ (modsOf es).length ≤ 5 ∧ Same B H ∧ Ret B H (RV (brk es vw)) Q
theorem ok_w_broken (T : Txt K mg) : FnOk P w K mg base CX0 8 (a_w_broken K) (fdOf K (a_w_broken K)) ["_law_plain_here", "_law_vows"] (sp_broken K) := by
  refine (f_w_broken T).ok sc_w_broken (fun vs H Q E h => ?_) (fun cdv A outer s0 H vs Q E hr h => ?_)
  · obtain ⟨B, v, u, es, vw, rfl, _⟩ := h
    rfl
  · obtain ⟨B, v, u, es, vw, rfl, hv, hu, ok, hvl, hvk, hml, sm, k⟩ := h
    refine ⟨_, (pss_cons (ps_asg (pe_tup (pa_cons (pe_call (ok_w_rows T) (hr.mono (by decide)) (by rfl) (g_w_rows T) (f_w_rows T).kp (b_w_rows T) .nil pass0 (pa_cons (pv 0) pa_nil)) (pa_cons (pe_call (ok_w_modules T) (hr.mono (by decide)) (by rfl) (g_w_modules T) (f_w_modules T).kp (b_w_modules T) .nil pass0 (pa_cons (pv 0) pa_nil)) pa_nil))) (pg_tup rfl (pgs_cons (pg_name (i := 2) sc_w_broken.nd rfl (Or.inl rfl)) (pgs_cons (pg_name (i := 3) sc_w_broken.nd rfl (Or.inr rfl)) pgs_nil)))) (pss_cons (ps_for PassesOwn.never rfl (pi_range1 (by rfl) (n_range T) (pa_cons (pe_callB call_len_seq (by rfl) (n_len T) (by decide +kernel) (pa_cons (pv 1) pa_nil)) pa_nil)) (pg_name (i := 4) sc_w_broken.nd rfl (Or.inr rfl)) (pss_cons (ps_set (i := 5) sc_w_broken.nd rfl (Or.inl rfl) (pe_callTy (call_dictP rfl) (by rfl) (n_dict T) (by decide +kernel) (pa_cons (pe_lock (pe_lc (own := [("_law_name", 6)]) (by rfl) sc_w_broken.nd (pi_keys (pe_ix ix_seq (pe_ix ix_seq (pv 1) (pv 4) (fun _ _ => rfl)) pe_int (fun _ _ => rfl))) (blkOk_by (own := [("_law_name", 6)]) (N := N_w_broken) (sc := defScope s_w_broken) (by decide +kernel)) (fun _ _ _ _ _ => (pg_name (i := 6) sc_w_broken.nd rfl (Or.inl rfl))) (fun _ _ _ _ _ => (pts_one (pt_cmpR (opB (r := fun K => rIn K false) K op_in_seq) (pv 6) (pv 3) (by rfl)))) (fun _ _ _ _ _ => (pe_tup (pa_cons (pv 6) (pa_cons (pe_dget (hu_of hr) (pe_ix (ixB K ix_seq) (pe_ix (ixB K ix_seq) (pv 1) (pv 4) (fun _ _ => rfl)) pe_int (fun _ _ => rfl)) (pv 6) (fun _ _ => rfl)) pa_nil)))))) pa_nil))) (pss_one (ps_if (pt_cmpR op_ne (pe_call (ok_w_settled T) (hr.mono (by decide)) (by rfl) (g_w_settled T) (f_w_settled T).kp (b_w_settled T) .nil pass0 (pa_cons (pv 2) (pa_cons (pv 5) pa_nil))) (pe_ix ix_seq (pe_ix ix_seq (pv 1) (pv 4) (fun _ _ => rfl)) pe_int (fun _ _ => rfl)) (nomark _)) (pss_one (ps_ret (pv 4))) pss_nil)))) (pss_one (ps_ret pe_non)))), ?_⟩
    have h12 := ok.len
    have hrl := ok.rl
    refine ⟨_, rfl, B, v, es, rfl, hv, ok, sm, fun rv B1 H1 g1 hrv => ?_⟩
    refine ⟨_, rfl, B1, v, es, rfl, mono_plain _ _ _ _ g1.base hv, by omega, by omega, g1.sub, fun mv B2 H2 g2 hm => ⟨line_le (show 2 ≤ 1000000 by decide), fun t0 ht0 => ?_⟩⟩
    obtain ⟨mp, rfl, hmp⟩ := hm
    have g3 := (g1.then0 g2).then0 (Gr.hid (o := .tup [rv, .ref mp]) g2.sub ht0)
    have hrv2 := mono_lst (mem_map_mono (mono_row (K := K))) _ _ _ g2.base hrv
    refine ⟨t0, _, rfl, .inl (.inl upd_same), rfl, _, _, rfl, _, _, rfl, rfl, ?_⟩
    obtain ⟨up, uys, rfl, hup, huP⟩ := id hu
    have hul : uys.length = vw.length := by have := huP.length; rw [List.length_map] at this; exact this.symm
    refine ⟨_, rfl, up, uys, rfl, .inl (SqL.of (g3.sub _ _ (g3.base _ _ hup))), (uys.length : Nat), rfl, by omega, by omega, ?_⟩
    refine for_it (walk_range (lo := 0) (n := uys.length)) (fun i σ H' => ∃ B' x4 x5, Gr M0 B H B' H' ∧ RLst ((rowsOf es).map (rRow K)) rv B' ∧ B' mp = some (.lst ((modsOf es).map V.str)) ∧ brokenAt es (vw.drop i) i = broken es vw ∧ σ = [some v, some (.ref up), some rv, some (.ref mp), x4, x5, none]) ⟨_, none, none, g3, hrv2, hmp, rfl, rfl⟩ (fun i σ H' hi pv => trivial) (fun i x σ H' H3 hi pv y => ?_) (fun σ H' pv => ?_)
    · obtain ⟨B', x4, x5, g, hr, hm, hb, rfl⟩ := pv
      obtain ⟨rfl, rfl⟩ := y
      have hi' : i < vw.length := by omega
      obtain ⟨q, hq1⟩ : ∃ q, vw[i]? = some q := ⟨vw[i], List.getElem?_eq_getElem hi'⟩
      obtain ⟨xq, hxq, hxR⟩ := huP.get (show (vw.map (rRow K))[i]? = some (rRow K q) by rw [List.getElem?_map, hq1]; rfl)
      obtain ⟨t, e, rfl, ht, he⟩ := mono_row (K := K) q _ _ _ g.base hxR
      obtain ⟨hkl, hnd⟩ := hvk q (List.mem_of_getElem? hq1)
      have hat : atI uys ((0 : Int) + (i : Nat)) = some (.ref t) := by rw [Int.zero_add]; exact atI_nat hxq
      have hup' := g.base _ _ hup
      refine ⟨e, _, g.sub _ _ he, trivial, fun od => ?_⟩
      have smL := lock_same (d := e) (o := .frz od (.dK (ansV q.1))) g.sub
      have hupO : off B' e up = some (.lst uys) := by rw [off_ne (ne_of hup' he (fun z => by cases z))]; exact hup'
      have hmO : off B' e mp = some (.lst ((modsOf es).map V.str)) := by rw [off_ne (ne_of hm he (fun z => by cases z))]; exact hm
      have htO : SqT K (off B' e) t [.ref e, .str q.2] := sqT_off he ht
      refine ⟨_, rfl, _, rfl, .inl ⟨up, _, _, _, rfl, rfl, SqL.of (smL _ _ hupO), hat, .inr (.inl ⟨t, _, 0, _, rfl, rfl, sqT_same smL htO, rfl, e, od, rfl, .inl ⟨ansV q.1, upd_same, fun D hD => ?_⟩⟩)⟩⟩
      have hDe : D ≠ e := by
        rintro rfl
        rw [upd_same] at hD
        cases hD
      have hnl : (ansV q.1).length = q.1.length := List.length_map ..
      refine lc_sel (walk_keys (d := e) (o := od) (kvs := ansV q.1)) (M := M0) (B1 := off B' e) (fun j => (q.1[j]?).bind fun p => if ((modsOf es).contains p.1) = true then some (rPr K p) else none) smL hD mok0 (line_lt (by omega)) (fun B5 H5 g5 => g5.keep e _ (fun z => z) upd_same) (fun j R h => ?_) (fun j x B5 H5 H6 hj g5 y Ky Kn ky kn' => ?_) (fun ys B5 H5 g5 h5 hP => ?_)
      · cases c : q.1[j]? with
        | none => rw [c] at h; cases h
        | some p =>
          rw [c] at h
          have h' : (if ((modsOf es).contains p.1) = true then some (rPr K p) else none) = some R := h
          split at h'
          · cases h'; exact mono_pr p
          · cases h'
      · obtain ⟨rfl, k0, v0, e1, rfl⟩ := y
        obtain ⟨p, hp⟩ : ∃ p, q.1[j]? = some p := ⟨q.1[j], List.getElem?_eq_getElem (by omega)⟩
        have eq1 : (ansV q.1)[j]? = some (Sum.inr p.1, V.str p.2) := by
          unfold ansV
          rw [List.getElem?_map, hp]
          rfl
        rw [eq1] at e1
        cases e1
        have hkn : valV (ansV q.1) (Sum.inr p.1) = some (V.str (get q.1 p.1)) := valV_get (List.mem_map_of_mem (List.mem_of_getElem? hp))
        rw [get_nodup hnd (List.mem_of_getElem? hp)] at hkn
        have hin : inV (.str p.1) ((modsOf es).map V.str) = (modsOf es).contains p.1 := by rw [inV_str]; exact (List.contains_eq_mem ..).symm
        refine ⟨rfl, _, rfl, _, rfl, mp, _, rfl, .inl (SqL.of (g5.sub _ _ (g5.base _ _ hmO))), rfl, flat_strs _, _, rfl, ?_⟩
        show if inV (.str p.1) ((modsOf es).map V.str) = true then _ else _
        rw [hin]
        cases c : (modsOf es).contains p.1 with
        | true =>
          refine iteT ⟨_, rfl, _, rfl, _, rfl, .inl ⟨up, _, _, _, rfl, rfl, SqL.of (g5.sub _ _ (g5.base _ _ hupO)), hat, .inr (.inl ⟨t, _, 0, _, rfl, rfl, sqT_same g5.sub (sqT_same g5.base htO), rfl, _, rfl, e, .str p.2, rfl, .inl ⟨ansV q.1, Sum.inr p.1, .inr ⟨od, g5.keep e _ (fun z => z) upd_same⟩, rfl, hkn.symm⟩, line_le (show 2 ≤ 1000000 by decide), fun tt htt => ?_⟩)⟩⟩
          exact ky (rPr K p) (by rw [hp]; show (if ((modsOf es).contains p.1) = true then _ else _) = _; rw [if_pos c]) _ _ _ (Gr.lay (o := .tup [.str p.1, .str p.2]) g5.sub htt) ⟨tt, rfl, .inl (.inl upd_same)⟩
        | false => exact iteF (kn' (by rw [hp]; show (if ((modsOf es).contains p.1) = true then _ else _) = _; rw [if_neg (by rw [c]; decide)]) _ _ (Gr.refl g5.sub))
      · rw [hnl, selN_filter q.1 (fun p => (modsOf es).contains p.1) (rPr K)] at hP
        change PairR ((here (modsOf es) q.1).map (rPr K)) ys B5 at hP
        generalize hhk : here (modsOf es) q.1 = hk at hP
        have ndk : (hk.map (·.1)).Nodup := by
          rw [← hhk]
          exact ((List.filter_sublist).map _).nodup hnd
        have hkl2 : hk.length ≤ 1000 := by rw [← hhk]; exact Nat.le_trans (List.length_filter_le ..) hkl
        obtain ⟨hf, gu⟩ := Gr.unlock g.sub he (fun z => z) g5
        have hBe : B5 e = none := g5.new _ _ off_same upd_same
        have sBe : Same B5 (upd B5 e (.dK (ansV q.1))) := fun a u z => by rw [upd_ne (ne_of_none z hBe)]; exact z
        obtain ⟨ps, rfl, hps⟩ := pr_paired gu.sub (hP.mono sBe (mem_map_mono mono_pr))
        have hD5 : upd H5 e (.dK (ansV q.1)) D = some (.lst (ps.map V.ref)) := by rw [upd_ne hDe]; exact g5.sub _ _ h5
        refine ⟨hf, D, ps, ansV hk, rfl, SqL.of hD5, hps, fun qd hqd => ?_⟩
        rw [merge_ans0 ndk]
        have l6 := Gr.lay (M := M0) (o := .dK (ansV hk)) gu.sub hqd
        have g6 := gu.then0 l6
        have hr6 := mono_lst (mem_map_mono (mono_row (K := K))) _ _ _ g6.base hr
        have hsub : ∀ r ∈ rowsOf es, Sub hk r.1 := by rw [← hhk]; exact here_sub
        have hrl2 := rows_len hml
        refine ⟨_, rfl, _, rfl, _, rv, qd, rowsOf es, hk, rfl, hr6, upd_same, hsub, ndk, hkl2, by omega, g6.sub, fun sv B7 H7 g7 hsv => ?_⟩
        cases hsv
        have gA := g6.then0 g7
        have gT := g.then0 gA
        refine ⟨_, rfl, _, rfl, .inl ⟨up, _, _, _, rfl, rfl, SqL.of (gT.sub _ _ (gT.base _ _ hup)), hat, .inr (.inl ⟨t, _, 1, _, rfl, rfl, sqT_same gA.sub (sqT_same gA.base ht), rfl, rfl, _, rfl, ?_⟩)⟩⟩
        have hdr : vw.drop i = q :: vw.drop (i + 1) := by
          obtain ⟨hlt, e0⟩ := List.getElem?_eq_some_iff.mp hq1
          rw [← e0]
          exact List.drop_eq_getElem_cons hlt
        have h3 := hb
        rw [hdr] at h3
        unfold brokenAt at h3
        rw [hhk] at h3
        have e3 : (!decide (V.str (settle (rowsOf es) hk) = V.str q.2)) = (settle (rowsOf es) hk != q.2) := by rw [sEq2]; rfl
        rw [e3]
        cases c : settle (rowsOf es) hk != q.2 with
        | true =>
          rw [if_pos c] at h3
          refine iteT ⟨_, rfl, k _ _ _ gT ?_⟩
          unfold brk
          rw [← h3]
          show V.int (0 + (i : Nat)) = V.int (i : Nat)
          rw [Int.zero_add]
        | false =>
          rw [if_neg (by rw [c]; decide)] at h3
          exact iteF ⟨_, _, _, gT, mono_lst (mem_map_mono (mono_row (K := K))) _ _ _ g7.base hr6, gA.base _ _ hm, h3, rfl⟩
    · obtain ⟨B', x4, x5, g, hr, hm, hb, rfl⟩ := pv
      have hbn : broken es vw = none := by
        rw [← hb, hul, List.drop_length]
        rfl
      have k' : ∀ B' H', Gr M0 B H B' H' → Q .non H' := fun B' H' g => k .non B' H' g (by unfold brk; rw [hbn])
      exact k' _ _ g
end
end Lg
/-! D29 -/
set_option maxHeartbeats 4000000
namespace Lg
open PySem L2
section
variable {P : Program} {w : World} {K : PySem.W.Frag} {mg : Str → Option Value} {base : Heap}
theorem ifS_P {c : TT} {t u : TS} {D : Ends} {σ : L2.St} {H : Hp} (PT PF : Hp → Prop) (hc : ∀ Q : Bool → Hp → Prop, (∀ H', PT H' → Q true H') → (∀ H', PF H' → Q false H') → c σ H Q) (ht : ∀ H', PT H' → t D σ H') (hf : ∀ H', PF H' → u D σ H') : tIfS c t u D σ H :=
  hc _ (fun H' h => iteT (ht H' h)) (fun H' h => iteF (hf H' h))
/-- a stack that the law draws -/
structure GoodPl (names : List Str) (most : Nat) (es : List En) : Prop where
  len : es.length ≤ 4
  rl : (rulesOf es).length ≤ most
  ru : ∀ x ∈ rulesOf es, okRu x = true ∧ x.1 ∈ names
theorem flat_es : ∀ {es : List En}, (∀ e ∈ es, ∃ x, e = .r x) → es = (rulesOf es).map En.r
  | [], _ => rfl
  | e :: es, h => by
    obtain ⟨x, rfl⟩ := h e List.mem_cons_self
    have ih := flat_es fun e' h' => h e' (List.mem_cons_of_mem _ h')
    show En.r x :: es = En.r x :: (rulesOf es).map En.r
    rw [← ih]
def sp_plain (K : PySem.W.Frag) (dp : Int) (okE : En → Prop) : Sp := fun vs H Q _ => ∃ (B : Hp) (r nl : Addr) (most : Nat) (names : List Str), vs = [.ref r, .ref nl, .int most, .int dp, .bl false] ∧ Wr K B H r ∧ B nl = some (.lst (names.map V.str)) ∧ 0 < names.length ∧ names.length ≤ 1000 ∧ (∀ x ∈ names, okMod x = true) ∧ most ≤ 12 ∧ Same B H ∧
  ∀ v es B' H', Gr (fun z => z = r) B H B' H' → Wr K B' H' r → rPlain K es v B' → GoodPl names most es → (∀ e ∈ es, okE e) → Q v H'
theorem ok_plain_gen (T : Txt K mg) {k : Nat} (dp : Int) (okE : En → Prop) (hr0 : ∀ x, okE (.r x)) {sub : Sp} (F : FnOk P w K mg base CX0 (k + 3) (a_w_plain K) (fdOf K (a_w_plain K)) ["_law_row", "_law_names", "_law_most", "_law_deep", "_law_plain_here"] sub)
    (hsub : 1 < dp → (∀ xs, okE (.s xs)) ∧ ∀ vs H Q E, sp_plain K (dp - 1) (fun e => ∃ x, e = .r x) vs H Q E → sub vs H Q E) :
    FnOk P w K mg base CX0 (k + 4) (a_w_plain K) (fdOf K (a_w_plain K)) ["_law_row", "_law_names", "_law_most", "_law_deep", "_law_plain_here"] (sp_plain K dp okE) := by
  refine (f_w_plain T).ok sc_w_plain (fun vs H Q E h => ?_) (fun cdv A outer s0 H vs Q E hr h => ?_)
  · obtain ⟨B, r, nl, most, names, rfl, _⟩ := h
    rfl
  · obtain ⟨B, r, nl, most, names, rfl, hW, hnl, hn0, hn1, hnm, hm12, sm, kk⟩ := h
    have ok_w_plain := fun (T : Txt K mg) => F
    refine ⟨_, (pss_cons (ps_par (i := 5) (j := 6) rfl sc_w_plain.nd rfl rfl (by decide) rfl rfl (pa_cons (pe_lst pa_nil) (pa_cons (pv 2) pa_nil)) (by rfl)) (pss_cons (ps_for PassesOwn.never rfl (pi_range1 (by rfl) (n_range T) (pa_cons (pe_call (ok_w_taken T) (hr.mono (by omega)) (by rfl) (g_w_taken T) (f_w_taken T).kp (b_w_taken T) .nil pass0 (pa_cons (pv 0) (pa_cons pe_int pa_nil))) pa_nil)) (pg_name (i := 7) sc_w_plain.nd rfl (Or.inl rfl)) (pss_one (ps_if (PW.pt (pw_and (pt_cmpR op_gt (pv 3) pe_int (nomark _)) (pw_and (pt_cmpR op_gt (pv 6) pe_int (nomark _)) (pw_and1 (pt_cmpR op_eq (pe_call (ok_w_taken T) (hr.mono (by omega)) (by rfl) (g_w_taken T) (f_w_taken T).kp (b_w_taken T) .nil pass0 (pa_cons (pv 0) (pa_cons pe_int pa_nil))) pe_int (nomark _)))))) (pss_cons (ps_set (i := 8) sc_w_plain.nd rfl (Or.inl rfl) (pe_call (ok_w_plain T) (hr.mono (by omega)) (by rfl) (g_w_plain T) (f_w_plain T).kp (b_w_plain T) .nil pass0 (pa_cons (pv 0) (pa_cons (pv 1) (pa_cons (pe_callB (call_min2 rfl) (by rfl) (n_min T) (by decide +kernel) (pa_cons (pv 6) (pa_cons pe_int pa_nil))) (pa_cons (pe_op op_sub (pv 3) pe_int) (pa_cons (pv 4) pa_nil))))))) (pss_cons (ps_expr (pe_bm PySem.F.plainAttrs_list PySem.F.slot_list_append PySem.F.type_list_append mt_append (pv 5) (pa_cons (pv 8) pa_nil))) (pss_one (ps_set (i := 6) sc_w_plain.nd rfl (Or.inl rfl) (pe_op op_sub (pv 6) (pe_callB call_len_seq (by rfl) (n_len T) (by decide +kernel) (pa_cons (pe_call (ok_w_rules T) (hr.mono (by omega)) (by rfl) (g_w_rules T) (f_w_rules T).kp (b_w_rules T) .nil pass0 (pa_cons (pv 8) pa_nil)) pa_nil))))))) (pss_one (ps_if (pt_cmpR op_gt (pv 6) pe_int (nomark _)) (pss_cons (ps_expr (pe_bm PySem.F.plainAttrs_list PySem.F.slot_list_append PySem.F.type_list_append mt_append (pv 5) (pa_cons (pe_tup (pa_cons (pe_call (ok_w_pick T) (hr.mono (by omega)) (by rfl) (g_w_pick T) (f_w_pick T).kp (b_w_pick T) .nil pass0 (pa_cons (pv 0) (pa_cons (pv 1) pa_nil))) (pa_cons (pe_call (ok_w_table T) (hr.mono (by omega)) (by rfl) (g_w_table T) (f_w_table T).kp (b_w_table T) .nil pass0 (pa_cons (pv 0) (pa_cons (pv 4) pa_nil))) pa_nil))) pa_nil))) (pss_one (ps_set (i := 6) sc_w_plain.nd rfl (Or.inl rfl) (pe_op op_sub (pv 6) pe_int)))) pss_nil))))) (pss_one (ps_ret (pv 5))))), ?_⟩
    refine ⟨line_le (show 0 ≤ 1000000 by decide), fun D hD => ⟨_, rfl, _, _, rfl, ?_⟩⟩
    have hBD : B D = none := sm.free hD
    have nDr : D ≠ r := hW.ne hD
    have g0 : Gr M0 B H B (upd H D (.lst [])) := Gr.hid sm hD
    have hW0 := hW.go0 g0
    refine ⟨_, rfl, B, r, 5, rfl, hW0, by decide, by decide, g0.sub, fun j B1 H1 g1 hW1 j0 j1 => ⟨j, rfl, by omega, by omega, ?_⟩⟩
    have gA : Gr (fun z => z = r) B H B1 H1 := Gr.trans hW.mok g0.up g1
    have hD1 : H1 D = some (.lst []) := g1.keep _ _ nDr upd_same
    have hB1 : B1 D = none := g1.new _ _ hBD upd_same
    refine for_it (walk_range (lo := 0) (n := j.toNat)) (fun i σ H' => ∃ B' ys es l x7 x8, Gr (fun z => z = r) B H B' H' ∧ Wr K B' H' r ∧ B' D = none ∧ H' D = some (.lst ys) ∧ PairR (es.map (rEnL K)) ys B' ∧ es.length ≤ i ∧ (rulesOf es).length + l ≤ most ∧ (∀ x ∈ rulesOf es, okRu x = true ∧ x.1 ∈ names) ∧ (∀ e ∈ es, okE e) ∧
      σ = [some (.ref r), some (.ref nl), some (.int most), some (.int dp), some (.bl false), some (.ref D), some (.int (l : Nat)), x7, x8]) ⟨B1, [], [], most, none, none, gA, hW1, hB1, hD1, (show PairR (List.map (rEnL K) ([] : List En)) [] B1 from trivial), Nat.le_refl _, Nat.le_of_eq (Nat.zero_add _), fun _ h => (nomatch h), fun _ h => (nomatch h), rfl⟩ (fun i σ H' hi pv => trivial) (fun i x σ H' H2 hi pv y => ?_) (fun σ H' pv => ?_)
    · obtain ⟨B', ys, es, l, x7, x8, g, hW', hb, hd, hP, hl, hrl, hru, hoe, rfl⟩ := pv
      obtain ⟨rfl, rfl⟩ := y
      have hyl : ys.length = es.length := by have := hP.length; rw [List.length_map] at this; exact this.symm
      have hi4 : i < 5 := by omega
      dsimp only [gName, tSeq]
      refine ifS_P (fun H3 => 1 < dp ∧ 0 < l ∧ ∃ B3, Gr (fun z => z = r) B' H2 B3 H3 ∧ Wr K B3 H3 r) (fun H3 => ∃ B3, Gr (fun z => z = r) B' H2 B3 H3 ∧ Wr K B3 H3 r) (fun Qf qt qf => ?_) (fun H3 ⟨hdp, hl0, B3, g3, hW3⟩ => ?_) (fun H3 ⟨B3, g3, hW3⟩ => ?_)
      · refine ⟨_, rfl, _, _, rfl, rfl, _, rfl, ?_⟩
        by_cases c1 : (1 : Int) < dp
        · rw [decide_eq_true c1]
          refine iteT ⟨_, rfl, _, _, rfl, rfl, _, rfl, ?_⟩
          by_cases c2 : (0 : Int) < (l : Nat)
          · rw [decide_eq_true c2]
            refine iteT ⟨_, rfl, B', r, 4, rfl, hW', by decide, by decide, g.sub, fun t B3 H3 g3 hW3 t0 t1 => ⟨rfl, _, rfl, ?_⟩⟩
            cases c3 : decide (V.int t = V.int 0) with
            | true => exact qt _ ⟨c1, by omega, B3, g3, hW3⟩
            | false => exact qf _ ⟨B3, g3, hW3⟩
          · rw [decide_eq_false c2]
            exact iteF (qf _ ⟨B', Gr.refl g.sub, hW'⟩)
        · rw [decide_eq_false c1]
          exact iteF (qf _ ⟨B', Gr.refl g.sub, hW'⟩)
      · obtain ⟨hoS, hs⟩ := hsub hdp
        have hd3 : H3 D = some (.lst ys) := g3.keep _ _ nDr hd
        have hb3 : B3 D = none := g3.new _ _ hb hd
        have gB : Gr (fun z => z = r) B H B3 H3 := Gr.trans hW.mok g g3
        refine ⟨_, rfl, _, rfl, _, rfl, _, _, rfl, _, rfl, _, _, rfl, rfl, _, rfl, hs _ _ _ _ ⟨B3, r, nl, min l 3, names, ?_, hW3, gB.base _ _ hnl, hn0, hn1, hnm, by omega, gB.sub, fun v es' B4 H4 g4 hW4 hv hg4 hf4 => ?_⟩⟩
        · have e : (if (3 : Int) < ((l : Nat) : Int) then (3 : Int) else ((l : Nat) : Int)) = ((min l 3 : Nat) : Int) := by split <;> omega
          show [V.ref r, V.ref nl, V.int (if (3 : Int) < ((l : Nat) : Int) then (3 : Int) else ((l : Nat) : Int)), V.int (dp - 1), V.bl false] = _
          rw [e]
        · have hd4 : H4 D = some (.lst ys) := g4.keep _ _ nDr hd3
          have hb4 : B4 D = none := g4.new _ _ hb3 hd3
          have gC : Gr (fun z => z = r) B H B4 H4 := Gr.trans hW.mok gB g4
          refine ⟨_, rfl, .inl ⟨rfl, _, SqL.of hd4⟩, _, rfl, D, ys, v, rfl, rfl, hd4, line_lt (by omega), ?_⟩
          have gD : Gr (fun z => z = r) B H B4 (upd H4 D (.lst (ys ++ [v]))) := gC.mut hb4 (.inl hD)
          have hWD := hW4.upd (o := .lst (ys ++ [v])) nDr
          have hrl4 := hg4.rl
          refine ⟨_, rfl, _, rfl, B4, v, es', rfl, hv, fun _ _ => trivial, by have := hg4.len; omega, by omega, gD.sub, fun rv B5 H5 g5 hrv => ?_⟩
          obtain ⟨rp, rys, rfl, hrp, hrP⟩ := hrv
          have hryl : rys.length = (rulesOf es').length := by have := hrP.length; rw [List.length_map] at this; exact this.symm
          refine ⟨rp, rys, rfl, .inl (SqL.of (g5.sub _ _ hrp)), _, _, rfl, rfl, ?_⟩
          have hfe := flat_es hf4
          have hxs : rEnL K (.s (rulesOf es')) v B4 := by
            show RLst ((rulesOf es').map (rRuL K)) v B4
            rw [plain_flat, ← hfe]
            exact hv
          have hru1 : rulesOf (es ++ [En.s (rulesOf es')]) = rulesOf es ++ rulesOf es' := by
            rw [rulesOf_append]
            show _ ++ (rulesOf es' ++ []) = _
            rw [List.append_nil]
          refine ⟨B5, ys ++ [v], es ++ [.s (rulesOf es')], l - (rulesOf es').length, some (.int (0 + (i : Nat))), some v, Gr.trans hW.mok gD g5.up, hWD.go0 g5, g5.new _ _ hb4 upd_same, g5.same _ _ upd_same, ?_, ?_, ?_, ?_, ?_, ?_⟩
          · rw [List.map_append]
            exact (PairR.snoc (hP.mono (g3.base.trans g4.base) (mem_map_mono mono_enL)) hxs).mono g5.base (fun R hR => by
              rcases List.mem_append.mp hR with h | h
              · exact mem_map_mono mono_enL R h
              · rw [List.mem_singleton.mp h]; exact mono_enL _)
          · rw [List.length_append]; exact Nat.add_le_add_right hl 1
          · rw [hru1, List.length_append]
            omega
          · intro x hx
            rw [hru1] at hx
            rcases List.mem_append.mp hx with h | h
            · exact hru x h
            · exact hg4.ru x h
          · intro e he
            rcases List.mem_append.mp he with h | h
            · exact hoe e h
            · rw [List.mem_singleton.mp h]; exact hoS _
          · have e1 : ((l : Nat) : Int) - (rys.length : Nat) = ((l - (rulesOf es').length : Nat) : Int) := by rw [hryl]; omega
            rw [← e1]
            rfl
      · have hd3 : H3 D = some (.lst ys) := g3.keep _ _ nDr hd
        have hb3 : B3 D = none := g3.new _ _ hb hd
        have gB : Gr (fun z => z = r) B H B3 H3 := Gr.trans hW.mok g g3
        by_cases c2 : 0 < l
        · refine ifS_b true (fun Q hQ => ⟨_, rfl, _, _, rfl, rfl, _, rfl, by rw [decide_eq_true (show (0 : Int) < ((l : Nat) : Int) by omega)]; exact hQ⟩) (fun _ => ?_) (fun z => by cases z)
          refine ⟨_, rfl, .inl ⟨rfl, _, SqL.of hd3⟩, _, rfl, _, rfl, B3, r, nl, names.map V.str, rfl, hW3, SqL.of (gB.base _ _ hnl), by rw [List.length_map]; exact hn0, by rw [List.length_map]; omega, gB.sub, fun y B4 H4 g4 hW4 hy => ?_⟩
          obtain ⟨nm, hnmM, rfl⟩ := List.mem_map.mp hy
          refine ⟨_, rfl, _, rfl, B4, r, rfl, hW4, g4.sub, fun t acts B5 H5 g5 hW5 ht hal hao => ⟨line_le (show 2 ≤ 1000000 by decide), fun u hu => ?_⟩⟩
          have gC : Gr (fun z => z = r) B H B5 H5 := Gr.trans hW.mok (Gr.trans hW.mok gB g4) g5
          have l6 := Gr.lay (M := M0) (o := .tup [.str nm, .ref t]) gC.sub hu
          have g6 : Gr (fun z => z = r) B H _ _ := Gr.trans hW.mok gC l6.up
          have hd5 : H5 D = some (.lst ys) := g5.keep _ _ nDr (g4.keep _ _ nDr hd3)
          have hb5 : B5 D = none := g5.new _ _ (g4.new _ _ hb3 hd3) (g4.keep _ _ nDr hd3)
          have hd6 := l6.same _ _ hd5
          have hb6 := l6.new _ _ hb5 hd5
          refine ⟨D, ys, .ref u, rfl, rfl, hd6, line_lt (by omega), ?_⟩
          have g7 := g6.mut (o := .lst (ys ++ [.ref u])) hb6 (.inl hD)
          have hW7 := (hW5.go0 l6).upd (o := .lst (ys ++ [.ref u])) nDr
          have hru1 : rulesOf (es ++ [En.r (nm, acts)]) = rulesOf es ++ [(nm, acts)] := by rw [rulesOf_append]; rfl
          refine ⟨_, rfl, _, _, rfl, rfl, ?_⟩
          refine ⟨_, ys ++ [.ref u], es ++ [.r (nm, acts)], l - 1, some (.int (0 + (i : Nat))), x8, g7, hW7, hb6, upd_same, ?_, ?_, ?_, ?_, ?_, ?_⟩
          · rw [List.map_append]
            refine PairR.snoc (hP.mono (((g3.base.trans g4.base).trans g5.base).trans l6.base) (mem_map_mono mono_enL)) ?_
            exact ⟨u, t, rfl, .inl (.inl upd_same), sqT_same l6.base ht⟩
          · rw [List.length_append]; exact Nat.add_le_add_right hl 1
          · rw [hru1, List.length_append]
            show (rulesOf es).length + 1 + (l - 1) ≤ most
            omega
          · intro x hx
            rw [hru1] at hx
            rcases List.mem_append.mp hx with h | h
            · exact hru x h
            · rw [List.mem_singleton.mp h]
              refine ⟨?_, hnmM⟩
              unfold okRu
              rw [hnm nm hnmM, hao, decide_eq_true hal]
              rfl
          · intro e he
            rcases List.mem_append.mp he with h | h
            · exact hoe e h
            · rw [List.mem_singleton.mp h]; exact hr0 _
          · have e1 : ((l : Nat) : Int) - 1 = ((l - 1 : Nat) : Int) := by omega
            rw [← e1]
            rfl
        · refine ifS_b false (fun Q hQ => ⟨_, rfl, _, _, rfl, rfl, _, rfl, by rw [decide_eq_false (show ¬ (0 : Int) < ((l : Nat) : Int) by omega)]; exact hQ⟩) (fun z => by cases z) (fun _ => ?_)
          exact ⟨B3, ys, es, l, _, _, gB, hW3, hb3, hd3, hP.mono g3.base (mem_map_mono mono_enL), by omega, hrl, hru, hoe, rfl⟩
    · obtain ⟨B', ys, es, l, x7, x8, g, hW', hb, hd, hP, hl, hrl, hru, hoe, rfl⟩ := pv
      have gT := g.tell hD hd hb
      have tB : Same B' (upd B' D (.lst ys)) := fun a u e => by rw [upd_ne (ne_of_none e hb)]; exact e
      have hWT : Wr K (upd B' D (.lst ys)) H' r := by
        obtain ⟨hb0, sc, xs, a, b, c, h1, h2, h3, h4⟩ := hW'
        exact ⟨by rw [upd_ne nDr.symm]; exact hb0, sc, xs, a, b, c, h1, sqL_same tB h2, h3, h4⟩
      exact ⟨_, rfl, kk (.ref D) es _ H' gT hWT ⟨D, ys, rfl, upd_same, hP.mono tB (mem_map_mono mono_enL)⟩ ⟨by omega, by omega, hru⟩ hoe⟩
theorem ok_plain_flat (T : Txt K mg) : FnOk P w K mg base CX0 4 (a_w_plain K) (fdOf K (a_w_plain K)) ["_law_row", "_law_names", "_law_most", "_law_deep", "_law_plain_here"] (sp_plain K 1 fun e => ∃ x, e = .r x) :=
  ok_plain_gen T (k := 0) 1 _ (fun x => ⟨x, rfl⟩) (sub := fun _ _ _ _ => False) ⟨fun _ _ _ _ h => h.elim, fun _ _ _ _ _ _ _ _ _ _ _ _ _ h => h.elim⟩ fun h => absurd h (by decide)
theorem ok_w_plain (T : Txt K mg) : FnOk P w K mg base CX0 5 (a_w_plain K) (fdOf K (a_w_plain K)) ["_law_row", "_law_names", "_law_most", "_law_deep", "_law_plain_here"] (sp_plain K 2 fun _ => True) :=
  ok_plain_gen T (k := 1) 2 (fun _ => True) (fun _ => trivial) (ok_plain_flat T) fun _ => ⟨fun _ => trivial, fun vs H Q E h => h⟩
end
end Lg
/-! D30 -/
set_option maxHeartbeats 4000000
namespace Lg
open PySem L2
section
variable {P : Program} {w : World} {K : PySem.W.Frag} {mg : Str → Option Value} {base : Heap}
def prs8 : List (Str × Str) := [("x", "a"), ("y", "b"), ("z", "c")]
def of8 (ps : List (Str × Str)) : List En := ps.flatMap fun p => [askR p.1, hideR p.2]
theorem of8_eight : of8 prs8 = eight := rfl
theorem ok_eight : OkS eight := ⟨by decide, by decide, by decide +kernel, by
  have : (rulesOf eight).all okRu = true := by decide +kernel
  exact List.all_eq_true.mp this⟩
theorem mods_eight : modsOf eight = (["a", "b", "c", "x", "y", "z"] : List Str) := by decide +kernel
def sp_eight (K : PySem.W.Frag) : Sp := fun vs H Q _ => ∃ (B : Hp), vs = [] ∧ Same B H ∧ Ret B H (rStack K eight) Q
theorem ok_w_eight (T : Txt K mg) : FnOk P w K mg base CX0 9 (a_w_eight K) (fdOf K (a_w_eight K)) [] (sp_eight K) := by
  refine (f_w_eight T).ok sc_w_eight (fun vs H Q E h => ?_) (fun cdv A outer s0 H vs Q E hr h => ?_)
  · obtain ⟨B, rfl, _⟩ := h
    rfl
  · obtain ⟨B, rfl, sm, k⟩ := h
    refine ⟨_, (pss_cons (ps_set (i := 0) sc_w_eight.nd rfl (Or.inl rfl) (pe_lst pa_nil)) (pss_cons (ps_for PassesOwn.never rfl (pi_tup (pe_tup (pa_cons (pe_tup (pa_cons pe_str (pa_cons pe_str pa_nil))) (pa_cons (pe_tup (pa_cons pe_str (pa_cons pe_str pa_nil))) (pa_cons (pe_tup (pa_cons pe_str (pa_cons pe_str pa_nil))) pa_nil))))) (pg_tup rfl (pgs_cons (pg_name (i := 1) sc_w_eight.nd rfl (Or.inl rfl)) (pgs_cons (pg_name (i := 2) sc_w_eight.nd rfl (Or.inl rfl)) pgs_nil))) (pss_one (ps_set (i := 0) sc_w_eight.nd rfl (Or.inl rfl) (pe_op op_cat (pv 0) (pe_lst (pa_cons (pe_tup (pa_cons (pv 1) (pa_cons (pe_tup (pa_cons pe_str (pa_cons pe_int (pa_cons pe_int (pa_cons pe_int pa_nil))))) pa_nil))) (pa_cons (pe_tup (pa_cons (pv 2) (pa_cons (pe_tup (pa_cons pe_str (pa_cons pe_str (pa_cons pe_str (pa_cons pe_str pa_nil))))) pa_nil))) pa_nil))))))) (pss_one (ps_ret (pe_call (ok_w_made T) (hr.mono (by decide)) (by rfl) (g_w_made T) (f_w_made T).kp (b_w_made T) .nil pass0 (pa_cons (pv 0) pa_nil)))))), ?_⟩
    refine ⟨line_le (show 0 ≤ 1000000 by decide), fun q hq => ⟨line_le (show 2 ≤ 1000000 by decide), fun t1 ht1 => ⟨line_le (show 2 ≤ 1000000 by decide), fun t2 ht2 => ⟨line_le (show 2 ≤ 1000000 by decide), fun t3 ht3 => ⟨line_le (show 3 ≤ 1000000 by decide), fun tt htt => ?_⟩⟩⟩⟩⟩
    have l0 := Gr.lay (M := M0) (o := .lst []) sm hq
    have l1 := Gr.lay (M := M0) (o := .tup [.str "x", .str "a"]) l0.sub ht1
    have l2 := Gr.lay (M := M0) (o := .tup [.str "y", .str "b"]) l1.sub ht2
    have l3 := Gr.lay (M := M0) (o := .tup [.str "z", .str "c"]) l2.sub ht3
    have l4 := Gr.lay (M := M0) (o := .tup [.ref t1, .ref t2, .ref t3]) l3.sub htt
    have g0 := (((l0.then0 l1).then0 l2).then0 l3).then0 l4
    have hP := show PairR (prs8.map (rPr K)) [V.ref t1, .ref t2, .ref t3] _ from ⟨⟨t1, rfl, .inl (.inl (l4.base _ _ (l3.base _ _ (l2.base _ _ upd_same))))⟩, ⟨t2, rfl, .inl (.inl (l4.base _ _ (l3.base _ _ upd_same)))⟩, ⟨t3, rfl, .inl (.inl (l4.base _ _ upd_same))⟩, trivial⟩
    have htb := upd_same (H := upd (upd (upd (upd B q (.lst [])) t1 (.tup [.str "x", .str "a"])) t2 (.tup [.str "y", .str "b"])) t3 (.tup [.str "z", .str "c"])) (a := tt) (o := .tup [.ref t1, .ref t2, .ref t3])
    have hq0 := l4.base _ _ (l3.base _ _ (l2.base _ _ (l1.base _ _ (upd_same (H := B) (a := q) (o := .lst [])))))
    generalize upd (upd (upd (upd (upd B q (.lst [])) t1 (.tup [.str "x", .str "a"])) t2 (.tup [.str "y", .str "b"])) t3 (.tup [.str "z", .str "c"])) tt (.tup [.ref t1, .ref t2, .ref t3]) = B0 at *
    generalize upd (upd (upd (upd (upd H q (.lst [])) t1 (.tup [.str "x", .str "a"])) t2 (.tup [.str "y", .str "b"])) t3 (.tup [.str "z", .str "c"])) tt (.tup [.ref t1, .ref t2, .ref t3]) = H0 at *
    refine ⟨tt, rfl, ⟨_, .inl (.inl (g0.sub _ _ htb))⟩, ?_⟩
    refine for_it (walk_tup (K := K) (a := tt) (xs := [V.ref t1, .ref t2, .ref t3])) (fun i σ H' => ∃ B' fv x1 x2, Gr M0 B0 H0 B' H' ∧ rPlain K (of8 (prs8.take i)) fv B' ∧ σ = [some fv, x1, x2]) ⟨B0, .ref q, none, none, Gr.refl g0.sub, ⟨q, [], rfl, hq0, trivial⟩, rfl⟩ (fun i σ H' hi pv => ?_) (fun i x σ H' H2 hi pv y => ?_) (fun σ H' pv => ?_)
    · obtain ⟨B', fv, x1, x2, g, _⟩ := pv
      exact .inl (.inl (g.sub _ _ (g.base _ _ htb)))
    · obtain ⟨B', fv, x1, x2, g, hf, rfl⟩ := pv
      obtain ⟨rfl, hx⟩ := y
      obtain ⟨R, hR, hxR⟩ := hP.at_ hx
      obtain ⟨p, hp, rfl⟩ : ∃ p, prs8[i]? = some p ∧ R = rPr K p := by
        rw [List.getElem?_map] at hR
        cases c : prs8[i]? with
        | none => rw [c] at hR; cases hR
        | some e => rw [c] at hR; exact ⟨e, rfl, (Option.some.inj hR).symm⟩
      obtain ⟨pt, rfl, hpt⟩ := mono_pr (K := K) p _ _ _ g.base hxR
      refine ⟨pt, _, rfl, sqT_same g.sub hpt, rfl, _, _, rfl, _, _, rfl, rfl, ?_⟩
      refine ⟨_, rfl, _, rfl, line_le (show 4 ≤ 1000000 by decide), fun a1 ha1 => ⟨line_le (show 2 ≤ 1000000 by decide), fun a2 ha2 => ⟨_, rfl, line_le (show 4 ≤ 1000000 by decide), fun a3 ha3 => ⟨line_le (show 2 ≤ 1000000 by decide), fun a4 ha4 => ⟨line_le (show 2 ≤ 1000000 by decide), fun a5 ha5 => ?_⟩⟩⟩⟩⟩
      have m1 := Gr.lay (M := M0) (o := .tup [.str "ignore", .int 1, .int 1, .int 1]) g.sub ha1
      have m2 := Gr.lay (M := M0) (o := .tup [.str p.1, .ref a1]) m1.sub ha2
      have m3 := Gr.lay (M := M0) (o := .tup [.str "ok", .str "bad", .str "bad", .str "bad"]) m2.sub ha3
      have m4 := Gr.lay (M := M0) (o := .tup [.str p.2, .ref a3]) m3.sub ha4
      have m5 := Gr.lay (M := M0) (o := .lst [.ref a2, .ref a4]) m4.sub ha5
      have gm := (((m1.then0 m2).then0 m3).then0 m4).then0 m5
      have hi3 : i < 3 := hi
      have htk : prs8.take (i + 1) = prs8.take i ++ [p] := by rw [List.take_succ, hp]; rfl
      have e8 : of8 (prs8.take (i + 1)) = of8 (prs8.take i) ++ [askR p.1, hideR p.2] := by
        unfold of8
        rw [htk, List.flatMap_append]
        simp
      have hnew : RLst ([askR p.1, hideR p.2].map (rEnL K)) (.ref a5) _ := ⟨a5, [.ref a2, .ref a4], rfl, upd_same, ⟨a2, a1, rfl, .inl (.inl (m5.base _ _ (m4.base _ _ (m3.base _ _ upd_same)))), .inl (.inl (m5.base _ _ (m4.base _ _ (m3.base _ _ (m2.base _ _ upd_same)))))⟩, ⟨a4, a3, rfl, .inl (.inl (m5.base _ _ upd_same)), .inl (.inl (m5.base _ _ (m4.base _ _ upd_same)))⟩, trivial⟩
      have hl8 : (of8 (prs8.take i)).length ≤ 6 := by
        match i, hi3 with
        | 0, _ => decide
        | 1, _ => decide
        | 2, _ => decide
      refine catL_rep gm.sub (mono_plain _ _ _ _ gm.base hf) hnew (fun R hR => ?_) (by rw [List.length_map, List.length_map]; show _ + 2 ≤ 1000000; omega) (fun v B7 H7 g7 hv => ⟨B7, v, _, _, g.then0 (gm.then0 g7), ?_, rfl⟩)
      · rcases List.mem_append.mp hR with h | h
        · exact mem_map_mono mono_enL R h
        · exact mem_map_mono mono_enL R h
      · rw [e8]
        unfold rPlain
        rw [List.map_append]
        exact hv
    · obtain ⟨B', fv, x1, x2, g, hf, rfl⟩ := pv
      have hf' : rPlain K eight fv B' := hf
      have gT := g0.then0 g
      exact ⟨_, rfl, B', fv, eight, rfl, hf', fun _ _ => trivial, ok_eight, gT.sub, fun v B7 H7 g7 hv => k _ _ _ (gT.then0 g7) hv⟩
def sp_promised (K : PySem.W.Frag) : Sp := fun vs H Q _ => ∃ (B : Hp) (d ddx s sdx : Addr) (st : Stt) (e l : Addr) (kn : Ans) (x : Str) (us : List V), vs = [.ref d, .ref e, .str x, .ref l] ∧ Dk K B H d ddx s sdx st ∧ H e = some (.dK (ansV kn)) ∧ B e = none ∧ (∀ p ∈ kn, p.1 ∈ modsOf st.now.es ∧ p.2 ∈ results) ∧ (x = "in" ∨ x = "out") ∧
  KOk ⟨st.now.es, st.now.vows ++ [(kn, x)], st.now.noted⟩ ∧ broken st.now.es (st.now.vows ++ [(kn, x)]) = none ∧ st.past.length ≤ 1000 ∧ B l = some (.lst us) ∧ us.length = st.now.vows.length ∧ Same B H ∧
  ∀ B' H', Gr (fun z => z = s ∨ z = sdx ∨ z = e) B H B' H' → Dk K B' H' d ddx s sdx ⟨⟨st.now.es, st.now.vows ++ [(kn, x)], st.now.noted⟩, st.past ++ [st.now], []⟩ → Q (.bl true) H'
theorem ok_w_promised (T : Txt K mg) : FnOk P w K mg base CX0 11 (a_w_promised K) (fdOf K (a_w_promised K)) ["_law_desk", "_law_known_here", "_law_word", "_law_vows"] (sp_promised K) := by
  refine (f_w_promised T).ok sc_w_promised (fun vs H Q E h => ?_) (fun cdv A outer s0 H vs Q E hr h => ?_)
  · obtain ⟨B, d, ddx, s, sdx, st, e, l, kn, x, us, rfl, _⟩ := h
    rfl
  · obtain ⟨B, d, ddx, s, sdx, st, e, l, kn, x, us, rfl, hD, he, hbe, hkn, hx, ok, hbr, hl, hL, hul, sm, k⟩ := h
    refine ⟨_, (pss_cons (ps_if (pt_cmpR op_ne (pe_meth (pv 0) (cl_Register T) (m_Register_promise T) (ok_Register_promise T) (hr.mono (by decide)) (b_Register_promise T) .nil pass0 (pa_cons (pv 1) (pa_cons (pv 2) pa_nil))) (pe_op op_add (pe_callB call_len_seq (by rfl) (n_len T) (by decide +kernel) (pa_cons (pv 3) pa_nil)) pe_int) (nomark _)) (pss_one (ps_ret pe_bl)) pss_nil) (pss_cons (ps_asg pe_str (pg_sub (pv 1) pe_str (set_dict (hu_of hr)))) (pss_one (ps_ret pe_bl)))), ?_⟩
    refine ⟨_, rfl, d, ddx, _, rfl, hD.hd, rfl, _, rfl, _, rfl, B, d, ddx, s, sdx, st, e, kn, x, rfl, hD, he, hbe, hkn, hx, ok, hbr, hl, sm, fun B1 H1 g1 hD1 => ?_⟩
    refine ⟨_, rfl, l, us, rfl, .inl (SqL.of (g1.sub _ _ (g1.base _ _ hL))), _, _, rfl, rfl, rfl, false, ?_, iteF ?_⟩
    · show V.bl (!decide (V.int ((st.now.vows.length + 1 : Nat) : Int) = V.int ((us.length : Nat) + 1))) = _
      rw [hul]
      rw [decide_eq_true (show V.int ((st.now.vows.length + 1 : Nat) : Int) = V.int (((st.now.vows.length : Nat) : Int) + 1) from rfl)]
      rfl
    have nes : e ≠ s ∧ e ≠ sdx := by
      obtain ⟨nv, qv, ev, uv, vv, a0, _⟩ := hD.st.ex
      exact ⟨ne_of he a0 (fun z => by cases z), ne_of he hD.st.dx (fun z => by cases z)⟩
    have he1 : H1 e = some (.dK (ansV kn)) := g1.keep _ _ (fun z => z.elim nes.1 nes.2) he
    have hb1 : B1 e = none := g1.new _ _ hbe he
    have hkl : kn.length ≤ 1000 := (ok.vk (kn, x) (List.mem_append_right _ (by simp))).1
    refine ⟨_, rfl, e, _, rfl, DPut.k (k := Sum.inr "other") he1 (line_lt (by unfold ansV; rw [List.length_map]; omega)), ?_⟩
    have gA : Gr (fun z => z = s ∨ z = sdx ∨ z = e) B H B1 H1 := g1.weak fun z hz => hz.elim .inl fun q => .inr (.inl q)
    have g2 : Gr (fun z => z = s ∨ z = sdx ∨ z = e) B H B1 _ := gA.mut (o := .dK (putK (ansV kn) (Sum.inr "other") (.str "yes"))) hb1 (.inr (.inr (.inr rfl)))
    have g3 : Gr (fun z => z = e) B1 H1 B1 _ := Gr.set (o := .dK (putK (ansV kn) (Sum.inr "other") (.str "yes"))) g1.sub hb1 rfl
    have nde : d ≠ e := ne_of hD.hd he (fun z => by cases z)
    exact k _ _ g2 ⟨by rw [upd_ne nde]; exact hD1.hd, hD1.hb, hD1.st.go g3 (fun z => nes.1 z.symm) (fun z => nes.2 z.symm)⟩
end
end Lg
/-! D31 -/
set_option maxHeartbeats 4000000
namespace Lg
open PySem L2
section
variable {P : Program} {w : World} {K : PySem.W.Frag} {mg : Str → Option Value} {base : Heap}
theorem rows_eq {B H : Hp} {vw : Vows} {v u : V} (sm : Same B H) (hk : ∀ x ∈ vw, (x.1.map (·.1)).Nodup) (hv : RLst (vw.map (rRow K)) v B) (hu : RLst (vw.map (rRow K)) u B) : DList (DRow K) v u H := by
  obtain ⟨a, xs, rfl, ha, hA⟩ := hv
  obtain ⟨b, ys, rfl, hb, hB⟩ := hu
  refine ⟨a, b, xs, ys, rfl, rfl, sm _ _ ha, sm _ _ hb, ?_, fun i x y e1 e2 => ?_⟩
  · rw [← hA.length, ← hB.length]
  · obtain ⟨R, hR, hx⟩ := hA.at_ e1
    obtain ⟨R', hR', hy⟩ := hB.at_ e2
    rw [hR] at hR'
    cases hR'
    rw [List.getElem?_map] at hR
    cases q : vw[i]? with
    | none => rw [q] at hR; cases hR
    | some r =>
      rw [q] at hR
      cases hR
      obtain ⟨t, d, rfl, ht, hd⟩ := hx
      obtain ⟨t', d', rfl, ht', hd'⟩ := hy
      have nd := hk r (List.mem_of_getElem? q)
      refine ⟨t, t', _, _, rfl, rfl, sqT_same sm ht, sqT_same sm ht', Prs.cons (.inl ⟨d, d', ansV r.1, rfl, rfl, sm _ _ hd, sm _ _ hd', fun p hp => ?_⟩) (Prs.cons (.inr ⟨rfl, rfl, ?_⟩) Prs.nil)⟩
      · unfold ansV at hp
        obtain ⟨z, hz, rfl⟩ := List.mem_map.mp hp
        refine ⟨?_, rfl⟩
        rw [valV_get (List.mem_map_of_mem hz), get_nodup nd hz]
      · show eqV (.str r.2) (.str r.2) = true
        unfold eqV
        simp
theorem at_last (us : List V) (x : V) : atI (us ++ [x]) (-1) = some x := by
  unfold atI ixN
  have hl : (us ++ [x]).length = us.length + 1 := by rw [List.length_append]; rfl
  rw [hl, if_neg (by decide), if_pos (by omega)]
  show (us ++ [x])[(-1 + ((us.length + 1 : Nat) : Int)).toNat]? = some x
  rw [show (-1 + ((us.length + 1 : Nat) : Int)).toNat = us.length by omega, List.getElem?_append_right (Nat.le_refl _), Nat.sub_self]
  rfl
def sp_lawtried (K : PySem.W.Frag) : Sp := fun vs H Q _ => ∃ (B : Hp) (d ddx s sdx : Addr) (st : Stt) (ks : List Kept) (kp : Kept) (pl : Addr) (us : List V) (t : Addr) (pp : V) (lv : V), vs = [.ref d, .ref pl] ∧ Dk K B H d ddx s sdx st ∧ st.past = ks ++ [kp] ∧ st.undone = [] ∧ KOk kp ∧ kp.noted = [] ∧ broken kp.es kp.vows = none ∧ st.past.length ≤ 900 ∧
  B pl = some (.lst (us ++ [.ref t])) ∧ us.length ≤ 1000 ∧ SqT K B t [pp, lv] ∧ rPlain K kp.es pp B ∧ RLst (kp.vows.map (rRow K)) lv B ∧ Same B H ∧ ∀ B' H', Gr (TM s sdx d) B H B' H' → Q (.bl true) H'
theorem ok_w_tried (T : Txt K mg) (S : ∃ es n, KDict K w (He.ga K "SIZES") es n) : FnOk P w K mg base CX0 14 (a_w_tried K) (fdOf K (a_w_tried K)) ["_law_desk", "_law_past"] (sp_lawtried K) := by
  refine (f_w_tried T).ok sc_w_tried (fun vs H Q E h => ?_) (fun cdv A outer s0 H vs Q E hr h => ?_)
  · obtain ⟨B, d, ddx, s, sdx, st, ks, kp, pl, us, t, pp, lv, rfl, _⟩ := h
    rfl
  · obtain ⟨B, d, ddx, s, sdx, st, ks, kp, pl, us, t, pp, lv, rfl, hD, hpa, hun, ok, hno, hbr, hl, hpl, hul, ht, hpp, hlv, sm, k⟩ := h
    have ok_Register_tried := fun (T : Txt K mg) => ok_Register_tried (P := P) (base := base) T S
    refine ⟨_, (pss_cons (ps_if (pt_cmpR op_isnot_bl (pe_meth0 (pv 0) (cl_Register T) (m_Register_undo T) (ok_Register_undo T) (hr.mono (by decide)) (b_Register_undo T) .nil pass0) pe_bl (nomark _)) (pss_one (ps_ret pe_bl)) pss_nil) (pss_cons (ps_if (pt_cmpR (op_neD hr.units) (pe_meth (pv 0) (cl_Register T) (m_Register_tried T) (ok_Register_tried T) (hr.mono (by decide)) (b_Register_tried T) .nil pass0 (pa_cons (pe_lst (pa_cons (pe_tup (pa_cons pe_str (pa_cons pe_str pa_nil))) pa_nil)) (pa_cons pe_bl pa_nil))) (pe_lst (pa_cons pe_bl pa_nil)) (nomark _)) (pss_one (ps_ret pe_bl)) pss_nil) (pss_cons (ps_if (pt_cmpR op_isnot_bl (pe_meth0 (pv 0) (cl_Register T) (m_Register_redo T) (ok_Register_redo T) (hr.mono (by decide)) (b_Register_redo T) .nil pass0) pe_bl (nomark _)) (pss_one (ps_ret pe_bl)) pss_nil) (pss_cons (ps_if (pt_cmpR op_isnot_bl (pe_meth0 (pv 0) (cl_Register T) (m_Register_undo T) (ok_Register_undo T) (hr.mono (by decide)) (b_Register_undo T) .nil pass0) pe_bl (nomark _)) (pss_one (ps_ret pe_bl)) pss_nil) (pss_cons (ps_if (pt_cmpR (op_neD hr.units) (pe_meth (pv 0) (cl_Register T) (m_Register_tried T) (ok_Register_tried T) (hr.mono (by decide)) (b_Register_tried T) .nil pass0 (pa_cons (pe_lst (pa_cons (pe_tup (pa_cons pe_str (pa_cons pe_str pa_nil))) pa_nil)) (pa_cons pe_bl pa_nil))) (pe_lst (pa_cons pe_bl pa_nil)) (nomark _)) (pss_one (ps_ret pe_bl)) pss_nil) (pss_cons (ps_if (pt_cmpR op_isnot_bl (pe_meth0 (pv 0) (cl_Register T) (m_Register_redo T) (ok_Register_redo T) (hr.mono (by decide)) (b_Register_redo T) .nil pass0) pe_bl (nomark _)) (pss_one (ps_ret pe_bl)) pss_nil) (pss_cons (ps_asg (pe_ix ix_list (pv 1) (pe_un un_neg pe_int) (fun _ _ => rfl)) (pg_tup rfl (pgs_cons (pg_name (i := 2) sc_w_tried.nd rfl (Or.inl rfl)) (pgs_cons (pg_name (i := 3) sc_w_tried.nd rfl (Or.inl rfl)) pgs_nil)))) (pss_one (ps_ret (pe_and (pe_cmpR (op_eqG (rcG_ins (ok_Stack_eq T) (fi_Stack_eq T) (fn_Stack_eq T) (b_Stack_eq T) pass0) (hr.mono (by decide))) (pe_meth0 (pv 0) (cl_Register T) (m_Register_stack T) (ok_Register_stack T) (hr.mono (by decide)) (b_Register_stack T) .nil pass0) (pe_call (ok_w_made T) (hr.mono (by decide)) (by rfl) (g_w_made T) (f_w_made T).kp (b_w_made T) .nil pass0 (pa_cons (pv 2) pa_nil)) (nomark _)) (pe_and (pe_cmpR (op_eqRows (hr.mono (by decide))) (pe_prop (pv 0) (cl_Register T) (p_Register_promises T) (ok_Register_promises T) (hr.mono (by decide)) (b_Register_promises T) .nil pass0 (by rfl)) (pv 3) (nomark _)) (pe_one (pe_cmpR (op_eqD hr.units) (pe_prop (pv 0) (cl_Register T) (p_Register_stored T) (ok_Register_stored T) (hr.mono (by decide)) (b_Register_stored T) .nil pass0 (by rfl)) (pe_lst (pa_cons pe_str pa_nil)) (nomark _)))))))))))))), ?_⟩
    have hkl : ks.length ≤ 900 := by rw [hpa, List.length_append] at hl; omega
    have nb : ∀ {B : Hp} {z : Addr} {u : HO}, B z = some u → (∀ H : Hp, Same B H → True) → True := fun _ _ => trivial
    -- undo
    refine ⟨_, rfl, d, ddx, _, rfl, hD.hd, rfl, B, d, ddx, s, sdx, st, rfl, hD, by omega, by rw [hun]; exact Nat.zero_le _, sm, fun z => absurd (hpa.symm.trans z) (by simp), fun ks' k' e B1 H1 g1 hD1 => ?_⟩
    obtain ⟨rfl, e2⟩ : ks' = ks ∧ k' = kp := by
      rw [hpa] at e
      have := List.append_inj' e rfl
      exact ⟨this.1.symm, by have := this.2; injection this with h; exact h.symm⟩
    subst e2
    rw [hun] at hD1
    refine ⟨_, _, rfl, rfl, _, rfl, iteF ?_⟩
    have tf : ∀ {B : Hp} {H : Hp} {v : V} {q : Addr} {Q : VK}, Same B H → RLst [RV (.bl false)] v B → H q = some (.lst [.bl false]) → Q (.bl false) H → rNeD K v (.ref q) H Q := by
      intro B H v q Q sm hv hq hQ
      obtain ⟨p, ys, rfl, hp, hP⟩ := hv
      match ys, hP with
      | [y], hP =>
        cases hP.1
        exact ⟨.list [.bool false], .list [.bool false], .lst (SqL.of (sm _ _ hp)) (.cons (.bl false) .nil), .lst (SqL.of hq) (.cons (.bl false) .nil), by decide, by decide, hQ⟩
    -- tried, not kept
    have GA : Gr (TM s sdx d) B H B1 H1 := g1.weak fun z hz => hz.elim .inl fun e => .inr (.inl e)
    refine ⟨_, rfl, d, ddx, _, rfl, hD1.hd, rfl, line_le (show 2 ≤ 1000000 by decide), fun o1 ho1 => ⟨line_le (show 1 ≤ 1000000 by decide), fun l1 hl1 => ?_⟩⟩
    have m1 := Gr.lay (M := M0) (o := .tup [.str "store", .str "one"]) g1.sub ho1
    have m2 := Gr.lay (M := M0) (o := .lst [.ref o1]) m1.sub hl1
    have hD1' := (hD1.go0 m1).go0 m2
    refine ⟨_, d, ddx, s, sdx, _, l1, o1, "one", false, rfl, upd_same, .inl (.inl (m2.base _ _ upd_same)), by decide +kernel, hD1', hno, ok, hbr, by dsimp only; omega, m2.sub, fun v2 B2 H2 g2 hD2 hv2 => ⟨line_le (show 1 ≤ 1000000 by decide), fun q1 hq1 => ?_⟩⟩
    have m3 := Gr.hid (M := M0) (o := .lst [.bl false]) g2.sub hq1
    have GB : Gr (TM s sdx d) B H B2 _ := Gr.trans' (Gr.trans' (Gr.trans' (Gr.trans' GA m1 fun z hz => hz.elim) m2 fun z hz => hz.elim) g2 fun z hz => .inl hz) m3 fun z hz => hz.elim
    refine tf m3.sub hv2 upd_same ⟨false, rfl, iteF ?_⟩
    have hD2' := hD2.go0 m3
    -- redo
    refine ⟨_, rfl, d, ddx, _, rfl, hD2'.hd, rfl, B2, d, ddx, s, sdx, _, rfl, hD2', (show ks'.length ≤ 1000 by omega), (show 1 ≤ 1000 by decide), m3.sub, fun z => absurd z (by simp), fun ks3 k3 e B3 H3 g3 hD3 => ?_⟩
    obtain ⟨rfl, e4⟩ : ks3 = [] ∧ k3 = st.now := by
      have := List.append_inj' (show ([] : List Kept) ++ [st.now] = ks3 ++ [k3] from e) rfl
      exact ⟨this.1.symm, by have := this.2; injection this with h; exact h.symm⟩
    subst e4
    refine ⟨_, _, rfl, rfl, _, rfl, iteF ?_⟩
    have GC : Gr (TM s sdx d) B H B3 H3 := Gr.trans' GB g3 fun z hz => .inl (hz.elim .inl fun e => .inr (.inl e))
    -- undo
    refine ⟨_, rfl, d, ddx, _, rfl, hD3.hd, rfl, B3, d, ddx, s, sdx, _, rfl, hD3, by dsimp only; rw [List.length_append]; exact Nat.le_trans (Nat.add_le_add_right hkl 1) (by decide), Nat.zero_le _, g3.sub, fun z => absurd z (by simp), fun ks5 k5 e B4 H4 g4 hD4 => ?_⟩
    obtain ⟨rfl, e6⟩ : ks5 = ks' ∧ k5 = k' := by
      have := List.append_inj' (show ks' ++ [k'] = ks5 ++ [k5] from e) rfl
      exact ⟨this.1.symm, by have := this.2; injection this with h; exact h.symm⟩
    subst e6
    refine ⟨_, _, rfl, rfl, _, rfl, iteF ?_⟩
    have GD : Gr (TM s sdx d) B H B4 H4 := Gr.trans' GC g4 fun z hz => .inl (hz.elim .inl fun e => .inr (.inl e))
    -- tried, kept
    refine ⟨_, rfl, d, ddx, _, rfl, hD4.hd, rfl, line_le (show 2 ≤ 1000000 by decide), fun o2 ho2 => ⟨line_le (show 1 ≤ 1000000 by decide), fun l2 hl2 => ?_⟩⟩
    have m5 := Gr.lay (M := M0) (o := .tup [.str "store", .str "one"]) g4.sub ho2
    have m6 := Gr.lay (M := M0) (o := .lst [.ref o2]) m5.sub hl2
    have hD4' := (hD4.go0 m5).go0 m6
    refine ⟨_, d, ddx, s, sdx, _, l2, o2, "one", true, rfl, upd_same, .inl (.inl (m6.base _ _ upd_same)), by decide +kernel, hD4', hno, ok, hbr, (show ks5.length ≤ 1000 by omega), m6.sub, fun v5 B5 H5 g5 hD5 hv5 => ⟨line_le (show 1 ≤ 1000000 by decide), fun q2 hq2 => ?_⟩⟩
    have m7 := Gr.hid (M := M0) (o := .lst [.bl false]) g5.sub hq2
    have GE : Gr (TM s sdx d) B H B5 _ := Gr.trans' (Gr.trans' (Gr.trans' (Gr.trans' GD m5 fun z hz => hz.elim) m6 fun z hz => hz.elim) g5 fun z hz => .inl hz) m7 fun z hz => hz.elim
    refine tf m7.sub hv5 upd_same ⟨false, rfl, iteF ?_⟩
    have hD5' := hD5.go0 m7
    -- redo: nothing
    refine ⟨_, rfl, d, ddx, _, rfl, hD5'.hd, rfl, B5, d, ddx, s, sdx, _, rfl, hD5', ?_, Nat.zero_le _, m7.sub, fun _ v6 B6 H6 g6 hv6 => ?_, fun ks7 k7 e => ?_⟩
    · show (ks5 ++ [_]).length ≤ 1000
      rw [List.length_append]
      exact Nat.le_trans (Nat.add_le_add_right hkl 1) (by decide)
    · cases hv6
      refine ⟨_, _, rfl, rfl, _, rfl, iteF ?_⟩
      have GF : Gr (TM s sdx d) B H B6 H6 := Gr.trans' GE g6 fun z hz => hz.elim
      have hD6 := hD5'.go0 g6
      have hpl6 := GF.base _ _ hpl
      have ht6 := sqT_same GF.base ht
      refine ⟨_, rfl, 1, rfl, pl, _, -1, .ref t, rfl, rfl, SqL.of (g6.sub _ _ hpl6), ?_, t, _, rfl, sqT_same g6.sub ht6, rfl, _, _, rfl, _, _, rfl, rfl, ?_⟩
      · exact at_last us (.ref t)
      have hpp6 := mono_plain (K := K) _ _ _ _ GF.base hpp
      have hlv6 := mono_lst (mem_map_mono (mono_row (K := K))) _ _ _ GF.base hlv
      refine ⟨_, rfl, d, ddx, _, rfl, hD6.hd, rfl, B6, d, ddx, s, sdx, _, rfl, hD6, fun sv hsv => ?_⟩
      refine ⟨_, rfl, B6, pp, k5.es, rfl, hpp6, fun _ _ => trivial, ok.es, g6.sub, fun mv B7 H7 g7 hmv => ?_⟩
      have hsv7 := mono_stack (K := K) _ _ _ _ g7.sub (mono_stack _ _ _ _ g7.base hsv)
      have hmv7 := mono_stack (K := K) _ _ _ _ g7.sub hmv
      obtain ⟨sa, sx, _, _, _, _, _, rfl, hsI, _⟩ := id hsv7
      obtain ⟨ma, mx, _, _, _, _, _, rfl, hmI, _⟩ := id hmv7
      refine ⟨⟨sa, ma, sx, mx, _, _, rfl, rfl, hsI, hmI, k5.es, hsv7, hmv7, fun x hx => (ok_parts (ok.es.ru x hx)).2.2⟩, fun H8 e8 => ⟨true, rfl, iteT ?_⟩⟩
      have g8 : Gr M0 B7 H7 B7 H8 := Gr.ext g7.sub e8
      have hD8 := (hD6.go0 g7).go0 g8
      have g68 := g7.then0 g8
      refine ⟨_, rfl, d, _, _, rfl, hD8.hd, B7, d, ddx, s, sdx, _, rfl, hD8, ok.vl, g8.sub, fun v9 B9 H9 g9 hv9 => ⟨_, rfl, rows_eq g9.sub (fun x hx => (ok.vk x hx).2) hv9 (mono_lst (mem_map_mono (mono_row (K := K))) _ _ _ (g68.base.trans g9.base) hlv6), fun H10 e10 => ⟨true, rfl, iteT ?_⟩⟩⟩
      have g10 : Gr M0 B9 H9 B9 H10 := Gr.ext g9.sub e10
      have hD10 := (hD8.go0 g9).go0 g10
      refine ⟨_, rfl, d, _, _, rfl, hD10.hd, B9, d, ddx, s, sdx, _, rfl, hD10, (show 1 ≤ 1 by decide), g10.sub, fun v11 B11 H11 g11 hv11 => ⟨line_le (show 1 ≤ 1000000 by decide), fun q3 hq3 => ?_⟩⟩
      have m12 := Gr.hid (M := M0) (o := .lst [.str "one"]) g11.sub hq3
      obtain ⟨p11, rfl, hp11⟩ := hv11
      have hp11' : B11 p11 = some (.lst [.str "one"]) := hp11
      refine ⟨.list [.str "one"], .list [.str "one"], .lst (SqL.of (m12.sub _ _ hp11')) (.cons (.str _) .nil), .lst (SqL.of upd_same) (.cons (.str _) .nil), by decide +kernel, by decide +kernel, ?_⟩
      have GG : Gr (TM s sdx d) B H B11 _ := Gr.trans' (Gr.trans' (Gr.trans' (Gr.trans' (Gr.trans' GF g68 fun z hz => hz.elim) g9 fun z hz => hz.elim) g10 fun z hz => hz.elim) g11 fun z hz => hz.elim) m12 fun z hz => hz.elim
      exact k _ _ GG
    · exact absurd (show ([] : List Kept) = ks7 ++ [k7] from e) (by simp)
end
end Lg
/-! D32 -/
set_option maxHeartbeats 1000000
namespace Lg
open PySem L2
section
theorem pe_setv {X : Cx} {i : Nat} {x : Str} {p : Pos} (hN : X.N[i]? = some x) (hv : Vis X.env.scope x) (hd : (x == ("__debug__" : Str)) = false := by decide) (hcd : (x == ("__classdict__" : Str)) = false := by decide) : PE X (.Name x p) (fun σ H Q => ∃ (σ0 : List (Option V)) (v : V), σ = σ0.set i (some v) ∧ Q v H) := by
  refine ⟨fun pins s σ H Q I h => ?_⟩
  obtain ⟨σ0, v, rfl, q⟩ := h
  have hl := I.len
  rw [List.length_set] at hl
  have hi : i < σ0.length := by rw [hl]; exact (List.getElem?_eq_some_iff.mp hN).1
  exact (pv i (hN := hN) (hv := hv) (hd := hd) (hcd := hcd)).run pins s _ H Q I ⟨v, by rw [List.getElem?_set_self hi], q⟩
def TTidx (K : PySem.W.Frag) : (XK → Hp → VK → Prop) → Hp → VK → Prop := fun tl H Q =>
  tl (fun cls d H' => cls = .ref (c_PromiseBroken K) ∧ ∃ dx i, d = some dx ∧ H' dx = some (.xd [("index", i)]) ∧ Q i H') H (fun _ H' => Q .non H')
theorem index_gives {X : Cx} (T : Txt X.K X.mg) {cdg : Value} {q : Str} : LamX.GivesTo X N_w_index "_law_index" (defScope s_w_index) (a_w_index X.K) cdg (defBody s_w_index) "_law_work" q (TTidx X.K) := by
  intro f c' s H Q tl act hc h
  refine ⟨_, pss_cons (L2.ps_try_as (X := (cxOf C8.CX0 X.prog X.w X.K X.mg X.base N_w_index "_law_index" (defScope s_w_index) (a_w_index X.K) cdg X.A X.stack s H C8.E0).nox) (i := 1) (n := "e") (c := .ref (c_PromiseBroken X.K))
      (tb := fun W D σ H => ∃ Ech : XK, (∀ cls d σ' H', Ech cls d H' → W cls d σ' H') ∧ σ[0]? = some (some (.ref f)) ∧ H c' = some (LamX.CodeO c' q) ∧ tl Ech H (fun _ H' => D.nx σ H'))
      rfl rfl sc_w_index.nd rfl rfl ⟨rfl, by decide, .inl (g_PromiseBroken T)⟩ LamX.takes0 (fun W pn xe tk _ => ?_) (fun a oe cls d pn hz hf => pss_one (ps_ret (pe_xf (of_PromiseBroken T) (on_PromiseBroken T) hz hf (pe_setv (i := 1) (x := "e") rfl (.inl rfl)))))) (pss_one (ps_ret pe_non)), ?_⟩
  · refine ⟨fun pins s' σ H' D I h' => ?_⟩
    obtain ⟨Ech, hW, h1, h2, h3⟩ := h'
    exact (pss_one (ps_expr (act W pn xe Ech _ _ tk hW))).run pins s' σ H' D I ⟨h1, h2, h3⟩
  · refine ⟨fun cls d H' => cls = .ref (c_PromiseBroken X.K) ∧ ∃ dx i, d = some dx ∧ H' dx = some (.xd [("index", i)]) ∧ Q i H', fun cls d σ' H' h => ?_, rfl, hc, h⟩
    obtain ⟨rfl, dx, i, rfl, hx, hq⟩ := h
    exact ⟨true, ox_PromiseBroken T, fun _ a ha => ⟨_, _, rfl, rfl, rfl, dx, _, i, rfl, hx, rfl, hq⟩, fun z => by cases z⟩
end
end Lg
/-! Lg22 -/
set_option maxHeartbeats 1000000
namespace Lg
open PySem PySem.Spec PyProof.Rows L2 LamX
/-- all but the object at P stay -/
def ExtP (P : Addr) (H H' : Hp) : Prop := ∀ b o, H b = some o → b ≠ P → H' b = some o
theorem ExtP.nt {P : Addr} {H H' : Hp} {ps : Array Value} (e : ExtP P H H') (hP : H P = some (.tbl ps)) : ExtN H H' := fun b o h n => e b o h fun z => by
  rw [z, hP] at h
  cases h
  exact n ps rfl
section
variable {X : Cx} {pins : List (Addr × Obj)} {σ : L2.St} {H : Hp} {s : Shared}
/-- the lambda is made: its code object is new, or found in the table -/
theorem lam_makeP {T : List (Addr × Str)} {c P : Addr} {params : Arguments} {body : Expr} {scope : Scope} {pos : Pos} {E : Value → Shared → Prop} {Q : Value → Shared → Prop} (I : Inv X pins σ H s) (TB : TabB X.base X.mg c P) (hcode : X.env.code = .ref c)
    (hm : (P, X.env.qual ++ "<lambda>") ∈ T) (hu : ∀ p ∈ T, p.1 = P → p.2 = X.env.qual ++ "<lambda>") (hT : Tabs T H) (hdef : defaultsOf params X.env = ([], [])) (hfree : ∀ y ∈ scope.names, y.2 = .free → ∃ c, X.env.cells.lookup y.1 = some c)
    (h : ∀ (f c' : Addr) (pm ctv : Value) (H1 : Hp) (s' : Shared), Inv X pins σ H1 s' → ExtP P H H1 → Tabs T H1 →
      s'.heap.get? f = some (PySem.W.kla_obj "<lambda>" (X.env.qual ++ "<lambda>") params body scope (cloFrom X.env.cells scope.names []) pm c' ctv) → H1 f = none → f ∉ frs X.stack → H1 c' = some (CodeO c' (X.env.qual ++ "<lambda>")) → Q (.ref f) s') :
    wpAny (model X.prog X.w) X.A (eval (.Lambda params body scope pos) X.env) Q E s := by
  obtain ⟨ps, hP, ht, ha⟩ := hT _ hm
  refine PySem.W.kla_eval hdef ?_
  have bP : s.heap.BuiltinsAt X.mg P := TB.bm.keeps I.bk
  have hP' : s.heap.get? P = some { cls := .none, data := .fields ps } := I.hok P _ hP
  have nofr : ∀ f, s.heap.objs.size ≤ f → f ∉ frs X.stack := fun f hf z => by
    rcases List.mem_cons.mp (I.stkSub _ z) with e | e
    · have h1 := I.lt
      rw [← e] at h1
      exact Nat.lt_irrefl _ (Nat.lt_of_lt_of_le h1 hf)
    · exact I.nofs hf e
  cases hc : codeAmong pos ps.toList with
  | none =>
    refine PySem.W.kla_makeFunction (mg := X.mg) (c := c) (P := P) (ps := ps) (closure_ok hfree) I.ok.glob (I.mod.glob.keeps I.bk) hcode (TB.code.keeps I.bk) hP' ht hc TB.gP bP fun c' ctv h' tk hx hge hlt hrec htb => ?_
    obtain ⟨c2, oc, vs, t, e2, hoc, hd, hv⟩ := hrec
    cases e2
    have hsz : s.heap.objs.size ≤ h'.objs.size := Nat.le_trans hge (Nat.le_of_lt hlt)
    have nC : H c' = none := I.hok.fresh hge
    have I1 := inv_table (t' := tk) (more := #[rawInt pos.line, rawInt pos.col, .ref c']) (h' := h'.push (PySem.W.kla_obj "<lambda>" (X.env.qual ++ "<lambda>") params body scope (cloFrom X.env.cells scope.names []) ((X.mg "__name__").getD .none) c' ctv)) I hP
      (fun b o hb e => Heap.get?_push_of_some _ (hx b o hb e)) (Heap.get?_push_of_some _ htb) hge ⟨oc, vs, t, Heap.get?_push_of_some _ hoc, hd, hv⟩
    have hE : ExtP P H (upd (upd H P (.tbl (ps ++ #[rawInt pos.line, rawInt pos.col, .ref c']))) c' (CodeO c' (X.env.qual ++ "<lambda>"))) := fun b o e n => by
      rw [upd_ne (ne_of_none e nC), upd_ne n]
      exact e
    have eL : (ps ++ #[rawInt pos.line, rawInt pos.col, .ref c']).toList = ps.toList ++ [rawInt pos.line, rawInt pos.col, .ref c'] := by simp
    refine h h'.objs.size c' ((X.mg "__name__").getD .none) ctv _ _ I1 hE (fun p hp => ?_) (Heap.get?_push_size _ rfl) ?_ (nofr _ hsz) upd_same
    · by_cases hb : p.1 = P
      · rw [hu p hp hb, hb]
        refine ⟨_, by rw [upd_ne (ne_of_none hP nC), upd_same], by rw [eL]; exact PySem.TriplesOk_snoc _ _ _ _ ht, fun p' cv hcv => ?_⟩
        rw [eL] at hcv
        rcases among_app _ ht hcv with z | z
        · obtain ⟨c0, e1, e2⟩ := ha p' cv z
          exact ⟨c0, e1, hE.nt hP _ _ e2 codeO_ne⟩
        · exact ⟨c', z, upd_same⟩
      · obtain ⟨ps', a1, a2, a3⟩ := hT p hp
        refine ⟨ps', by rw [upd_ne (ne_of_none a1 nC), upd_ne hb]; exact a1, a2, fun p' cv hcv => ?_⟩
        obtain ⟨c0, e1, e2⟩ := a3 p' cv hcv
        exact ⟨c0, e1, hE.nt hP _ _ e2 codeO_ne⟩
    · have n1 : h'.objs.size ≠ c' := Nat.ne_of_gt hlt
      have n2 : h'.objs.size ≠ P := Nat.ne_of_gt (Nat.lt_of_lt_of_le (Heap.lt_size hP') hsz)
      rw [upd_ne n1, upd_ne n2]
      exact I.hok.fresh hsz
  | some cv =>
    obtain ⟨c', e, hco⟩ := ha pos cv hc
    subst e
    refine PySem.W.kla_makeFunctionHit (mg := X.mg) (c := c) (P := P) (ps := ps) (closure_ok hfree) I.ok.glob (I.mod.glob.keeps I.bk) hcode (TB.code.keeps I.bk) hP' ht hc bP fun ctv h' tk hx hsz => ?_
    have I1 : Inv X pins σ H { s with heap := h'.push (PySem.W.kla_obj "<lambda>" (X.env.qual ++ "<lambda>") params body scope (cloFrom X.env.cells scope.names []) ((X.mg "__name__").getD .none) c' ctv), toks := tk } := I.kept fun b o e => Heap.get?_push_of_some _ (hx b o e)
    exact h h'.objs.size c' ((X.mg "__name__").getD .none) ctv H _ I1 (fun _ _ e _ => e) hT (Heap.get?_push_size _ rfl) (I.hok.fresh hsz) (nofr _ hsz) hco
end
def tLamP (P : Addr) (T : List (Addr × Str)) (TT : (XK → Hp → VK → Prop) → Hp → VK → Prop) (t : XK → TE) : TE := fun σ H Q => Tabs T H ∧ ∀ H1, ExtP P H H1 → Tabs T H1 → TT (fun E H' Q' => t E σ H' Q') H1 Q
section
variable {X : Cx}
/-- x(lambda: body) -/
theorem pe_lamcallP {T : List (Addr × Str)} {TT : (XK → Hp → VK → Prop) → Hp → VK → Prop} {x a : Str} {g c P : Addr} {k : Nat} {pg : Arguments} {bg : List Stmt} {sg : Scope} {dV kV doc pm cdv ct oc : Value} {an od : Option Addr} {osl : Array (Option Value)} {Ng : List Str}
    {params : Arguments} {body : Expr} {scope : Scope} {t : XK → TE} {p lpos pos : Pos} (hg : Gl X x) (hm : X.mg x = some (.ref g)) (hk : PySem.W.keepIn X.K (.ref g) = true)
    (lk : X.K.lookup g = some ⟨oc, od, .func (PySem.W.fnOf x x pg bg sg dV kV doc pm an cdv ct), osl⟩) (hcg : PySem.W.codeIn X.K cdv x = true) (hb : L2.Binds X.K (PySem.W.fnOf x x pg bg sg dV kV doc pm an cdv ct) [a] []) (Sg : FnScope Ng [a] sg) (hNg : Ng[0]? = some a) (hva : Vis sg a)
    (hG : GivesTo X Ng x sg g cdv bg a (X.env.qual ++ "<lambda>") TT)
    (TB : TabB X.base X.mg c P) (hcode : X.env.code = .ref c) (hmT : (P, X.env.qual ++ "<lambda>") ∈ T) (hu : ∀ p ∈ T, p.1 = P → p.2 = X.env.qual ++ "<lambda>") (hr : Room (k + 2) X.A) (L : LamS X.env.scope scope) (hdef : defaultsOf params X.env = ([], []))
    (hbind : ∀ (q : Str) (cl : List (Str × Addr)) (pm cv ctv : Value), bindArgs (PySem.W.kla_fn "<lambda>" q params body scope cl pm cv ctv) ⟨[], []⟩ = pure [])
    (hbody : ∀ (A : Around) (outer : List Env) (s : Shared) (H : Hp) (E : XK) (f c' : Addr), Room k (A.deeper (lamEnv X scope s.heap.objs.size f c')) → PE (lamCx X A outer s H E scope f c') body (t E))
    (hdb : (x == ("__debug__" : Str)) = false := by decide) (hd : (a == ("__debug__" : Str)) = false := by decide) (hcd : (a == ("__classdict__" : Str)) = false := by decide) :
    PE X (.Call (.Name x p) [.Lambda params body scope lpos] [] pos) (tLamP P T TT t) := by
  refine ⟨fun pins s σ H Q I h => ?_⟩
  obtain ⟨hT, h⟩ := h
  refine wpAny_Call_Name_kw (ld_glob I hg hm ?_ hdb)
  refine PySem.W.callWith_K (h₀ := X.base) I.ok.mod.kin hk ?_ (by rfl) (by rfl)
  show wpAny _ _ (spliced ((false, eval (.Lambda params body scope lpos) X.env) :: backTo pos (starEach [] X.env))) _ _ s
  refine Calls.spliced_cons (lam_makeP I TB hcode hmT hu hT hdef (L.has I.ok) fun f c' pm' ctv H1 s' I1 eN T1 hf hfn hfr hco => ?_)
  refine Calls.spliced_nil ⟨I1.kIn, ?_⟩
  have rc : codeAny (model X.prog X.w) X.A (.call (.ref g) ⟨[.ref f], []⟩) (CR C8.CX0 X.stack X.prog X.w H1 s' Q C8.E0) s' := by
    refine run_ofS (N := Ng) (ps := [a]) (us := [.ref f]) (vs := [.ref f]) lk hcg Sg hr I1.env0 (hb s' [.ref f] I1.kIn rfl) (.cons rfl .nil) rfl fun hr' => ?_
    obtain ⟨t', ht', hq'⟩ := hG f c' s' H1 Q (fun E H' Q' => t E σ H' Q') (fun W pn xe E p1 p2 tk hW => pe_act (i := 0) I1 L hf hfn hfr (hbind _ _ _ _ _) tk hW hr' (fun A outer s H hr2 => hbody A outer s H E f c' hr2) hNg hva hd hcd) hco (h H1 eN T1)
    exact ⟨t', ht'.nox, hq'⟩
  refine wpAny_call (codeAny_mono rc fun r s2 hq => ?_)
  cases r with
  | error e => exact (show False from hq).elim
  | ok fl =>
    cases fl with
    | ret u => exact I1.after hq
    | next => exact False.elim hq
    | brk => exact False.elim hq
    | cont => exact False.elim hq
end
end Lg
/-! D33 -/
set_option maxHeartbeats 1000000
namespace Lg
open PySem PySem.Spec PyProof.Rows L2
theorem ps_join {X : Cx} {st : Stmt} {t : TS} (h : PS X st t) : PS X st (fun D σ H => ∃ J : L2.St → Hp → Prop, t { D with nx := J } σ H ∧ ∀ σ' H', J σ' H' → D.nx σ' H') := ⟨fun pins s σ H D I h' => by
  obtain ⟨J, h1, h2⟩ := h'
  refine thn (h.run pins s σ H _ I h1) fun f s' q => ?_
  cases f with
  | next =>
    obtain ⟨σ', H', I', j⟩ := q
    exact ⟨σ', H', I', h2 _ _ j⟩
  | brk => exact q
  | cont => exact q
  | ret u => exact q⟩
theorem pe_join {X : Cx} {e : Expr} {t : TE} (h : PE X e t) : PE X e (fun σ H Q => ∃ J : V → Hp → Prop, t σ H J ∧ ∀ v H', J v H' → Q v H') := ⟨fun pins s σ H Q I h' => by
  obtain ⟨J, h1, h2⟩ := h'
  refine thn (h.run pins s σ H _ I h1) fun u s' q => ?_
  obtain ⟨v, H', I', r, j⟩ := q
  exact ⟨v, H', I', r, h2 _ _ j⟩⟩
theorem okC {P : Program} {w : World} {K : PySem.W.Frag} {mg : Str → Option Value} {base : Heap} {x qual : Str} {st : Stmt} {f : Addr} {fd : FuncData} {N ps : List Str} {k : Nat} {sp : Sp} {cv : Value} (F : L2.Fun K x qual st f fd) (hc : fd.code = cv) (S : FnScope N ps (defScope st)) (len : ∀ vs H Q E, sp vs H Q E → vs.length = ps.length)
    (hbody : ∀ (A : Around) (outer : List Env) (s : Shared) (H : Hp) (vs : List V) (Q : VK) (E : XK), Room k (A.deeper (envOfC qual (defScope st) s.heap.objs.size f cv)) → sp vs H Q E →
      ∃ t, PSs (cxOf CX0 P w K mg base N qual (defScope st) f cv A outer s H E).nox (defBody st) t ∧ t { nx := fun _ H' => Q .non H', rt := Q } (start N vs) H) : FnOk P w K mg base CX0 (k + 1) f fd ps sp := by
  obtain ⟨oc, od, kV, doc, pm, an, cdv, ct, osl, rfl, lk, hcd⟩ := F.ex
  obtain rfl : cdv = cv := hc
  refine fn_of lk hcd S len fun A outer s H vs Q E hr hsp => ?_
  obtain ⟨t, h, q⟩ := hbody A outer s H vs Q E hr hsp
  exact ⟨t, h.nox, q⟩
theorem codeO_sl {a C dx c : Addr} {vs : List (Option V)} {q : Str} : SlX.SlO a C dx vs ≠ LamX.CodeO c q := by
  intro z
  unfold SlX.SlO LamX.CodeO at z
  injection z with z
  let o : Obj := { cls := .none, dict := none, data := .fields #[.none, .str q 0] }
  have e : ∀ b : Nat, b ≤ (a : Nat) + (c : Nat) → ({ objs := Array.replicate (a + c + 1) o } : Heap).get? b = some o := fun b hb => by
    unfold Heap.get?
    rw [Array.getElem?_replicate, if_pos (by omega)]
  have k := congrFun z { objs := Array.replicate (a + c + 1) o }
  have k2 : ∃ (oc : Obj) (us : Array Value) (t : Tok), ({ objs := Array.replicate (a + c + 1) o } : Heap).get? c = some oc ∧ oc.data = .fields us ∧ us[1]? = some (.str q t) := ⟨o, _, _, e c (by omega), rfl, rfl⟩
  rw [← k] at k2
  obtain ⟨sl, h1, _⟩ := k2
  rw [e a (by omega)] at h1
  have h2 := congrArg Obj.data (Option.some.inj h1)
  cases h2
def NT (o : HO) : Prop := (∀ ps, o ≠ .tbl ps) ∧ ∀ c q, o ≠ LamX.CodeO c q
theorem nt_lst {xs : List V} : NT (.lst xs) := ⟨fun _ z => (by cases z), fun _ _ z => (by unfold LamX.CodeO at z; cases z)⟩
theorem nt_xd {xs : List (Str × V)} : NT (.xd xs) := ⟨fun _ z => (by cases z), fun _ _ z => (by unfold LamX.CodeO at z; cases z)⟩
theorem nt_dK {xs : List (L2.Key × V)} : NT (.dK xs) := ⟨fun _ z => (by cases z), fun _ _ z => (by unfold LamX.CodeO at z; cases z)⟩
theorem nt_ins {C dx : Addr} {xs : List (Str × V)} : NT (.ins C dx xs) := ⟨fun _ z => (by cases z), fun _ _ z => (by unfold LamX.CodeO at z; cases z)⟩
theorem nt_sl {a C dx : Addr} {vs : List (Option V)} : NT (SlX.SlO a C dx vs) := ⟨fun _ z => (by unfold SlX.SlO at z; cases z), fun _ _ => codeO_sl⟩
theorem tabs_gr {M : Addr → Prop} {B H B1 H1 : Hp} {T : List (Addr × Str)} (g : Gr M B H B1 H1) (hM : ∀ z o, M z → H z = some o → NT o) (t : LamX.Tabs T H) : LamX.Tabs T H1 := fun p hp => by
  obtain ⟨ps, h1, h2, h3⟩ := t p hp
  refine ⟨ps, g.keep _ _ (fun m => (hM _ _ m h1).1 _ rfl) h1, h2, fun pos cv hc => ?_⟩
  obtain ⟨c, e1, e2⟩ := h3 pos cv hc
  exact ⟨c, e1, g.keep _ _ (fun m => (hM _ _ m e2).2 _ _ rfl) e2⟩
/-- a lambda made: only the table is written -/
theorem gr_ext {P : Addr} {B H H1 : Hp} {q : Str} (sm : Same B H) (hP : B P = none) (t : LamX.Tabs [(P, q)] H1) (e : ExtP P H H1) : Gr (fun z => z = P) B H B H1 :=
  ⟨.refl _, fun a o h => e a o (sm _ _ h) (fun z => by rw [z, hP] at h; cases h), fun a o n h => e a o h n, fun a o h => (by
    by_cases z : a = P
    · obtain ⟨ps, h1, _⟩ := t (P, q) (by simp)
      exact ⟨_, by rw [z]; exact h1⟩
    · exact ⟨_, e a o h z⟩), fun _ _ h _ => h⟩
section
variable {P : Program} {w : World} {K : PySem.W.Frag} {mg : Str → Option Value} {base : Heap}
abbrev insPr (K : PySem.W.Frag) (dx : Addr) (ow ch lf fc : V) : HO := .ins (c_Prober K) dx [("own_names", ow), ("tried_choices", ch), ("left", lf), ("facts", fc)]
/-- a candidate, its row -/
def rCand (K : PySem.W.Frag) (c : Ans) : Rp := fun v B => ∃ t d q, v = .ref t ∧ SqT K B t [.ref d, .ref q] ∧ B d = some (.dK (ansV c)) ∧ B q = some (.tup ((rowOf eight c).map V.str))
def PrAt (K : PySem.W.Frag) (B H : Hp) (p : Addr) : Prop := ∃ dx ow ch lf fc, H p = some (insPr K dx ow ch lf fc) ∧ RLst ((allAns hidN).map (rCand K)) lf B
def sp_Prober_init (K : PySem.W.Frag) : Sp := fun vs H Q _ => ∃ (B : Hp) (p dx ow : Addr) (sv : V), vs = [.ref p, sv, .ref ow] ∧ H p = some (.ins (c_Prober K) dx []) ∧ B p = none ∧ rStack K eight sv B ∧ SqT K B ow (ownN.map V.str) ∧ Same B H ∧
  ∀ B' H', Gr (fun z => z = p) B H B' H' → PrAt K B' H' p → Q .non H'
def sp_Prober_kinds (K : PySem.W.Frag) : Sp := fun vs H Q _ => ∃ (B : Hp) (p : Addr), vs = [.ref p] ∧ PrAt K B H p ∧ Same B H ∧ Ret B H (fun v B => ∃ q ys, v = .ref q ∧ B q = some (.lst ys) ∧ ys.length = 8) Q
def sp_Prober_fewest (K : PySem.W.Frag) : Sp := fun vs H Q _ => ∃ (B : Hp) (p : Addr), vs = [.ref p] ∧ PrAt K B H p ∧ Same B H ∧ Ret B H (RV (.int 3)) Q
theorem mono_cand (c : Ans) : Mono (rCand K c) := fun _ _ _ s ⟨t, d, q, e, h1, h2, h3⟩ => ⟨t, d, q, e, sqT_same s h1, s _ _ h2, s _ _ h3⟩
theorem PrAt.go0 {B H B1 H1 : Hp} {p : Addr} (h : PrAt K B H p) (g : Gr M0 B H B1 H1) : PrAt K B1 H1 p := by
  obtain ⟨dx, ow, ch, lf, fc, h1, h2⟩ := h
  exact ⟨dx, ow, ch, lf, fc, g.same _ _ h1, mono_lst (mem_map_mono mono_cand) _ _ _ g.base h2⟩
theorem mk_prober {H : Hp} {Q : Addr → Hp → Prop} {E : XK} {B : Hp} {ow : Addr} {sv : V} (h1 : rStack K eight sv B) (h2 : SqT K B ow (ownN.map V.str)) (sm : Same B H) (k : ∀ p B' H', Gr M0 B H B' H' → PrAt K B' H' p → Q p H') :
    ∀ a dx, H a = none → H dx = none → dx ≠ a → sp_Prober_init K [.ref a, sv, .ref ow] (upd (upd H dx (.own a)) a (.ins (c_Prober K) dx [])) (fun v H2 => v = .non ∧ Q a H2) E := by
  intro a dx e1 e2 hne
  have s1 : Same H (upd (upd H dx (.own a)) a (.ins (c_Prober K) dx [])) := fun p u e => by
    rw [upd_ne (ne_of_none e e1), upd_ne (ne_of_none e e2)]; exact e
  refine ⟨B, a, dx, ow, sv, rfl, upd_same, sm.free e1, h1, h2, sm.trans s1, fun B' H' g hp => ⟨rfl, k a B' H' ?_ hp⟩⟩
  have g1 : Gr M0 B H B (upd (upd H dx (.own a)) a (.ins (c_Prober K) dx [])) := ((Gr.refl sm).mut (sm.free e2) (.inl e2)).mut (sm.free e1) (.inl e1)
  exact g1.trans' g fun z hz => .inr (by rw [hz]; exact e1)
theorem mk_register {H : Hp} {Q : Addr → Hp → Prop} {E : XK} {B : Hp} {v : V} {es : List En} (h1 : rStack K es v B) (sm : Same B H) (k : ∀ d ddx s sdx B' H', Gr M0 B H B' H' → Dk K B' H' d ddx s sdx ⟨⟨es, [], []⟩, [], []⟩ → Q d H') :
    ∀ a dx, H a = none → H dx = none → dx ≠ a → sp_Register_init K [.ref a, v] (upd (upd H dx (.own a)) a (.ins (c_Register K) dx [])) (fun v H2 => v = .non ∧ Q a H2) E := by
  intro a dx e1 e2 hne
  have s1 : Same H (upd (upd H dx (.own a)) a (.ins (c_Register K) dx [])) := fun p u e => by
    rw [upd_ne (ne_of_none e e1), upd_ne (ne_of_none e e2)]; exact e
  refine ⟨B, a, dx, v, es, rfl, upd_same, sm.free e1, h1, sm.trans s1, fun s sdx B' H' g hd => ⟨rfl, k a dx s sdx B' H' ?_ hd⟩⟩
  have g1 : Gr M0 B H B (upd (upd H dx (.own a)) a (.ins (c_Register K) dx [])) := ((Gr.refl sm).mut (sm.free e2) (.inl e2)).mut (sm.free e1) (.inl e1)
  exact g1.trans' g fun z hz => .inr (by rw [hz]; exact e1)
def nm3 : List Str := ["key", "pin", "card"]
theorem GoodPl.okS {es : List En} (g : GoodPl nm3 5 es) : OkS es ∧ (modsOf es).length ≤ 3 := by
  have h : (modsOf es).length ≤ nm3.length := nodup_le _ _ (nodup_sortS _) fun x hx => by
    obtain ⟨y, hy, rfl⟩ := List.mem_map.mp (mem_sortS.mp hx)
    exact (g.ru y hy).2
  have h3 : (modsOf es).length ≤ 3 := h
  exact ⟨⟨Nat.le_trans g.len (by decide), Nat.le_trans g.rl (by decide), Nat.le_trans h3 (by decide), fun x hx => (g.ru x hx).1⟩, h3⟩
theorem GoodPl.both {es fs : List En} (g : GoodPl nm3 5 es) (g' : GoodPl nm3 5 fs) : (bothMods es fs).length ≤ 3 := by
  refine nodup_le _ nm3 (nodup_sortS _) fun x hx => ?_
  rcases List.mem_append.mp (mem_sortS.mp hx) with hx | hx <;> obtain ⟨y, hy, rfl⟩ := List.mem_map.mp (mem_sortS.mp hx)
  · exact (g.ru y hy).2
  · exact (g'.ru y hy).2
theorem drop_rules (es : List En) (i : Nat) : (rulesOf (es.take i ++ es.drop (i + 1))).length ≤ (rulesOf es).length ∧ ∀ x ∈ rulesOf (es.take i ++ es.drop (i + 1)), x ∈ rulesOf es := by
  have e1 : rulesOf es = rulesOf (es.take i) ++ rulesOf (es.drop i) := by rw [← rulesOf_append, List.take_append_drop]
  have e2 : rulesOf (es.drop i) = rulesOf ((es.drop i).take 1) ++ rulesOf (es.drop (i + 1)) := by rw [← rulesOf_append, ← List.drop_drop, List.take_append_drop]
  rw [rulesOf_append, e1, e2]
  refine ⟨by simp only [List.length_append]; omega, fun x hx => ?_⟩
  rcases List.mem_append.mp hx with h | h
  · exact List.mem_append_left _ h
  · exact List.mem_append_right _ (List.mem_append_right _ h)
theorem GoodPl.drop {es : List En} (g : GoodPl nm3 5 es) (i : Nat) : GoodPl nm3 5 (es.take i ++ es.drop (i + 1)) :=
  ⟨by have := g.len; rw [List.length_append, List.length_take, List.length_drop]; omega, Nat.le_trans (drop_rules es i).1 g.rl, fun x hx => g.ru x ((drop_rules es i).2 x hx)⟩
theorem settle_word {es : List En} {kn : Ans} (h : settle (rowsOf es) kn ≠ "open") : settle (rowsOf es) kn = "in" ∨ settle (rowsOf es) kn = "out" := by
  have k : ∀ x ∈ sortS (((rowsOf es).filter fun r => agree r.1 kn).map (·.2)), x = "in" ∨ x = "out" := fun x hx => by
    obtain ⟨r, hr, rfl⟩ := List.mem_map.mp (mem_sortS.mp hx)
    obtain ⟨a, _, rfl⟩ := List.mem_map.mp (List.mem_filter.mp hr).1
    show leads es a = _ ∨ leads es a = _
    unfold leads
    split
    · exact .inl rfl
    · exact .inr rfl
  unfold settle at h ⊢
  generalize sortS _ = ys at h k ⊢
  match ys, h, k with
  | [], h, _ => exact absurd rfl h
  | [x], _, k => exact k x (by simp)
  | _ :: _ :: _, h, _ => exact absurd rfl h
theorem brokenAt_snoc (es : List En) (v : Ans × Str) : ∀ (vs : Vows) (i : Nat), brokenAt es vs i = none → settle (rowsOf es) (here (modsOf es) v.1) = v.2 → brokenAt es (vs ++ [v]) i = none
  | [], i, _, h => by
    show (if (settle (rowsOf es) (here (modsOf es) v.1) != v.2) = true then some i else none) = none
    rw [if_neg (by rw [h]; simp)]
  | u :: vs, i, h0, h => by
    show (if (settle (rowsOf es) (here (modsOf es) u.1) != u.2) = true then some i else brokenAt es (vs ++ [v]) (i + 1)) = none
    have h0' : (if (settle (rowsOf es) (here (modsOf es) u.1) != u.2) = true then some i else brokenAt es vs (i + 1)) = none := h0
    by_cases c : (settle (rowsOf es) (here (modsOf es) u.1) != u.2) = true
    · rw [if_pos c] at h0'; cases h0'
    · rw [if_neg c] at h0' ⊢
      exact brokenAt_snoc es v vs (i + 1) h0' h
theorem here_all {names : List Str} {kn : Ans} (h : ∀ p ∈ kn, p.1 ∈ names) : here names kn = kn := List.filter_eq_self.mpr fun p hp => List.contains_iff_mem.mpr (h p hp)
structure Fine (k : Kept) : Prop where
  ok : KOk k
  no : k.noted = []
  br : broken k.es k.vows = none
  gd : GoodPl nm3 5 k.es
/-- the law's picture of what was: its rows, its promises -/
def rWas (K : PySem.W.Frag) (k : Kept) : Rp := fun v B => ∃ t pp lv, v = .ref t ∧ SqT K B t [pp, lv] ∧ rPlain K k.es pp B ∧ RLst (k.vows.map (rRow K)) lv B
theorem mono_was (k : Kept) : Mono (rWas K k) := fun _ _ _ s ⟨t, pp, lv, e, h1, h2, h3⟩ => ⟨t, pp, lv, e, sqT_same s h1, mono_plain _ _ _ _ s h2, mono_lst (mem_map_mono mono_row) _ _ _ s h3⟩
structure LV (K : PySem.W.Frag) (B H : Hp) (r d ddx s sdx pl : Addr) (st : Stt) (pv vv : V) (us : List V) (Pt : Addr) (q : Str) (n : Nat) : Prop where
  wr : Wr K B H r
  dk : Dk K B H d ddx s sdx st
  pb : B pl = none
  ph : H pl = some (.lst us)
  pp : rPlain K st.now.es pv B
  vo : RLst (st.now.vows.map (rRow K)) vv B
  pa : PairR (st.past.map (rWas K)) us B
  fine : ∀ k ∈ st.past, Fine k
  now : Fine st.now
  un : st.undone = []
  pn : st.past.length ≤ n
  vn : st.now.vows.length ≤ n
  tb : B Pt = none
  tabs : LamX.Tabs [(Pt, q)] H
  sm : Same B H
theorem LV.go {M : Addr → Prop} {B H B1 H1 : Hp} {r d ddx s sdx pl Pt : Addr} {st : Stt} {pv vv : V} {us : List V} {q : Str} {n : Nat} (v : LV K B H r d ddx s sdx pl st pv vv us Pt q n) (g : Gr M B H B1 H1) (hw : Wr K B1 H1 r) (hd : Dk K B1 H1 d ddx s sdx st) (np : ¬ M pl) (hM : ∀ z o, M z → H z = some o → NT o) : LV K B1 H1 r d ddx s sdx pl st pv vv us Pt q n := by
  obtain ⟨ps, hP, _⟩ := v.tabs (Pt, q) (by simp)
  exact ⟨hw, hd, g.new _ _ v.pb v.ph, g.keep _ _ np v.ph, mono_plain _ _ _ _ g.base v.pp, mono_lst (mem_map_mono mono_row) _ _ _ g.base v.vo, v.pa.mono g.base (mem_map_mono mono_was), v.fine, v.now, v.un, v.pn, v.vn, g.new _ _ v.tb hP, tabs_gr g hM v.tabs, g.sub⟩
theorem LV.go0 {B H B1 H1 : Hp} {r d ddx s sdx pl Pt : Addr} {st : Stt} {pv vv : V} {us : List V} {q : Str} {n : Nat} (v : LV K B H r d ddx s sdx pl st pv vv us Pt q n) (g : Gr M0 B H B1 H1) : LV K B1 H1 r d ddx s sdx pl st pv vv us Pt q n :=
  v.go g (v.wr.go0 g) (v.dk.go0 g) (fun z => z) fun _ _ z => z.elim
theorem Dk.goN {M : Addr → Prop} {B H B1 H1 : Hp} {d ddx s sdx : Addr} {st : Stt} (h : Dk K B H d ddx s sdx st) (g : Gr M B H B1 H1) (n1 : ¬ M d) (n2 : ¬ M s) (n3 : ¬ M sdx) : Dk K B1 H1 d ddx s sdx st := ⟨g.keep _ _ n1 h.hd, g.new _ _ h.hb h.hd, h.st.go g n2 n3⟩
/-- the row's objects are not the desk's -/
theorem LV.nes {B H : Hp} {r d ddx s sdx pl Pt : Addr} {st : Stt} {pv vv : V} {us : List V} {q : Str} {n : Nat} (v : LV K B H r d ddx s sdx pl st pv vv us Pt q n) : d ≠ r ∧ s ≠ r ∧ sdx ≠ r ∧ d ≠ pl ∧ s ≠ pl ∧ sdx ≠ pl := by
  obtain ⟨_, sc, xs, a, b, c, h1, _⟩ := v.wr
  obtain ⟨nv, qv, ev, uv, vv, a0, _⟩ := v.dk.st.ex
  have k : ∀ {xs : List V}, SlX.SlO s (c_State K) sdx [some nv, some qv, some ev, some uv, some vv] ≠ .lst xs := fun z => by unfold SlX.SlO at z; cases z
  exact ⟨ne_of v.dk.hd h1 (fun z => by cases z), ne_of a0 h1 k, ne_of v.dk.st.dx h1 (fun z => by cases z), ne_of v.dk.hd v.ph (fun z => by cases z), ne_of a0 v.ph k, ne_of v.dk.st.dx v.ph (fun z => by cases z)⟩
theorem LV.goR {B H B1 H1 : Hp} {r d ddx s sdx pl Pt : Addr} {st : Stt} {pv vv : V} {us : List V} {q : Str} {n : Nat} (v : LV K B H r d ddx s sdx pl st pv vv us Pt q n) (hn : pl ≠ r) (g : Gr (fun z => z = r) B H B1 H1) (hw : Wr K B1 H1 r) : LV K B1 H1 r d ddx s sdx pl st pv vv us Pt q n := by
  obtain ⟨_, sc, xs, a, b, c, h1, _⟩ := id v.wr
  exact v.go g hw (v.dk.goN g v.nes.1 v.nes.2.1 v.nes.2.2.1) hn fun z o hz ho => by
    rw [hz, h1] at ho
    cases ho
    exact nt_lst
theorem LV.lam {B H H1 : Hp} {r d ddx s sdx pl Pt : Addr} {st : Stt} {pv vv : V} {us : List V} {q : Str} {n : Nat} (v : LV K B H r d ddx s sdx pl st pv vv us Pt q n) (e : ExtP Pt H H1) (t : LamX.Tabs [(Pt, q)] H1) : LV K B H1 r d ddx s sdx pl st pv vv us Pt q n := by
  obtain ⟨ps, hP, _⟩ := v.tabs (Pt, q) (by simp)
  have g := gr_ext v.sm v.tb t e
  obtain ⟨_, sc, xs, a, b, c, h1, _⟩ := id v.wr
  obtain ⟨nv, qv, ev, uv, vv', a0, _⟩ := v.dk.st.ex
  have k : SlX.SlO s (c_State K) sdx [some nv, some qv, some ev, some uv, some vv'] ≠ .tbl ps := fun z => by unfold SlX.SlO at z; cases z
  exact ⟨v.wr.go g (ne_of h1 hP fun z => by cases z), v.dk.goN g (ne_of v.dk.hd hP fun z => by cases z) (ne_of a0 hP k) (ne_of v.dk.st.dx hP fun z => by cases z), v.pb, e _ _ v.ph (ne_of v.ph hP fun z => by cases z), v.pp, v.vo, v.pa, v.fine, v.now, v.un, v.pn, v.vn, v.tb, t, g.sub⟩
theorem LV.push {M : Addr → Prop} {B H B1 H1 B2 H2 : Hp} {r d ddx s sdx pl Pt t : Addr} {st st' : Stt} {pv vv pv' vv' : V} {us : List V} {q : Str} {n : Nat} (v : LV K B H r d ddx s sdx pl st pv vv us Pt q n) (g : Gr M B H B1 H1) (hM : ∀ z o, M z → H z = some o → NT o) (nr : ¬ M r) (np : ¬ M pl)
    (hD : Dk K B1 H1 d ddx s sdx st') (hp : st'.past = st.past ++ [st.now]) (hu : st'.undone = []) (hF : Fine st'.now) (hv : st'.now.vows.length ≤ n + 1) (ht : SqT K B1 t [pv, vv]) (hpr : pl ≠ r)
    (g2 : Gr M0 B1 (upd H1 pl (.lst (us ++ [.ref t]))) B2 H2) (h1 : rPlain K st'.now.es pv' B2) (h2 : RLst (st'.now.vows.map (rRow K)) vv' B2) : LV K B2 H2 r d ddx s sdx pl st' pv' vv' (us ++ [.ref t]) Pt q (n + 1) := by
  obtain ⟨ps, hP, _⟩ := v.tabs (Pt, q) (by simp)
  have pb1 := g.new _ _ v.pb v.ph
  have gs : Gr (fun z => z = pl) B1 H1 B1 (upd H1 pl (.lst (us ++ [.ref t]))) := Gr.set g.sub pb1 rfl
  have ph1 := g.keep _ _ np v.ph
  have T1 := tabs_gr gs (fun z o hz ho => by rw [hz, ph1] at ho; cases ho; exact nt_lst) (tabs_gr g hM v.tabs)
  obtain ⟨n1, n2, n3, n4, n5, n6⟩ := v.nes
  obtain ⟨ps1, hP1, _⟩ := T1 (Pt, q) (by simp)
  have bb := g.base.trans g2.base
  refine ⟨((v.wr.go g nr).go gs fun z => hpr z.symm).go0 g2, (hD.goN gs n4 n5 n6).go0 g2, g2.new _ _ pb1 upd_same, g2.same _ _ upd_same, h1, h2, ?_, fun k hk => ?_, hF, hu, ?_, hv, g2.new _ _ (g.new _ _ v.tb hP) hP1, tabs_gr g2 (fun _ _ z => z.elim) T1, g2.sub⟩
  · rw [hp, List.map_append]
    exact PairR.snoc (v.pa.mono bb (mem_map_mono mono_was)) ⟨t, pv, vv, rfl, sqT_same g2.base ht, mono_plain _ _ _ _ bb v.pp, mono_lst (mem_map_mono mono_row) _ _ _ bb v.vo⟩
  · rw [hp] at hk
    rcases List.mem_append.mp hk with hk | hk
    · exact v.fine k hk
    · rw [List.mem_singleton.mp hk]
      exact v.now
  · rw [hp, List.length_append]
    have := v.pn
    show st.past.length + 1 ≤ n + 1
    omega
theorem LV.next {B H : Hp} {r d ddx s sdx pl Pt : Addr} {st : Stt} {pv vv : V} {us : List V} {q : Str} {n : Nat} (v : LV K B H r d ddx s sdx pl st pv vv us Pt q n) : LV K B H r d ddx s sdx pl st pv vv us Pt q (n + 1) :=
  ⟨v.wr, v.dk, v.pb, v.ph, v.pp, v.vo, v.pa, v.fine, v.now, v.un, Nat.le_succ_of_le v.pn, Nat.le_succ_of_le v.vn, v.tb, v.tabs, v.sm⟩
theorem brk_scal (es : List En) (vw : Vows) : scal (brk es vw) (brk es vw) = true := by
  unfold brk
  split <;> rfl
end
end Lg
/-! D34 -/
set_option maxHeartbeats 1000000
namespace Lg
open PySem L2
section
variable {P : Program} {w : World} {K : PySem.W.Frag} {mg : Str → Option Value} {base : Heap}
def sp_law (K : PySem.W.Frag) (Pt : Addr) : Sp := fun vs H Q _ => ∃ (a : Addr) (xs : List Int), vs = [.ref a] ∧ SqL K H a (xs.map V.int) ∧ H Pt = some (.tbl #[]) ∧ ∀ H', Q (.bl true) H'
theorem eq_or_snoc {α : Type} (xs : List α) : xs = [] ∨ ∃ ys y, xs = ys ++ [y] := by
  rcases List.eq_nil_or_concat xs with h | ⟨ys, y, h⟩
  · exact .inl h
  · exact .inr ⟨ys, y, by rw [h]; simp⟩
theorem sqL_off {H : Hp} {a Pt : Addr} {xs : List V} {ps : Array Value} (h : H Pt = some (.tbl ps)) (k : SqL K H a xs) : SqL K (off H Pt) a xs := by
  rcases k with (k | ⟨o, k⟩) | k
  · exact .inl (.inl (by rw [off_ne (ne_of k h fun z => by cases z)]; exact k))
  · exact .inl (.inr ⟨o, by rw [off_ne (ne_of k h fun z => by cases z)]; exact k⟩)
  · exact .inr k
/-- _law_index(lambda: _law_desk.take(_law_index_here)) -/
theorem pe_take {X : Cx} (T : Txt X.K X.mg) {c Pt : Addr} {params : Arguments} {scope : Scope} {p lpos pos p1 p2 p3 p4 : Pos} (TB : LamX.TabB X.base X.mg c Pt) (hcode : X.env.code = .ref c) (hr : Room 13 X.A) (hg : Gl X "_law_index") (L : LamX.LamS X.env.scope scope) (hdef : defaultsOf params X.env = ([], []))
    (hbind : ∀ (q : Str) (cl : List (Str × Addr)) (pm cv ctv : Value), bindArgs (PySem.W.kla_fn "<lambda>" q params (.Call (.Attribute (.Name "_law_desk" p1) "take" p2) [.Name "_law_index_here" p3] [] p4) scope cl pm cv ctv) ⟨[], []⟩ = pure [])
    (h3 : X.N[3]? = some ("_law_desk" : Str)) (h12 : X.N[12]? = some ("_law_index_here" : Str)) (v3 : scope.names.lookup ("_law_desk" : Str) = some .free) (v12 : scope.names.lookup ("_law_index_here" : Str) = some .free)
    (hpl : ∀ (A : Around) (outer : List Env) (s : Shared) (H : Hp) (E : XK) (f c' : Addr), ∃ pl : Sem Bool, eval (.Call (.Attribute (.Name "_law_desk" p1) "take" p2) [.Name "_law_index_here" p3] [] p4) (LamX.lamCx X A outer s H E scope f c').env = (do
      let ov ← eval (.Name "_law_desk" p1) (LamX.lamCx X A outer s H E scope f c').env
      standAt p2.atName
      let (g, first) ← holding [ov] (getMethod ov "take" pl)
      callWith p4 g first (backTo p4 (starEach [.Name "_law_index_here" p3] (LamX.lamCx X A outer s H E scope f c').env)) (backToKw p4 (keywordEach [] (LamX.lamCx X A outer s H E scope f c').env)))) :
    PE X (.Call (.Name "_law_index" p) [.Lambda params (.Call (.Attribute (.Name "_law_desk" p1) "take" p2) [.Name "_law_index_here" p3] [] p4) scope lpos] [] pos)
      (tLamP Pt [(Pt, X.env.qual ++ "<lambda>")] (TTidx X.K) fun E => tMeth (c_Register X.K) "take" (sp_Register_take X.K) [] E (tVar 3) (tCons (tVar 12) tNil)) := by
  obtain ⟨oc, od, kV, doc, pm, an, cdi, ct, osl, efd, lk, hcd⟩ := (f_w_index T).ex
  have bI := b_w_index T
  rw [efd] at bI lk
  refine pe_lamcallP (k := 11) hg (g_w_index T) (f_w_index T).kp lk hcd bI sc_w_index rfl (Or.inl rfl) (index_gives T) TB hcode (by simp) (fun p hp _ => by rw [List.mem_singleton.mp hp]) hr L hdef hbind (fun A outer s H E f c' hr => ?_)
  obtain ⟨pl, e⟩ := hpl A outer s H E f c'
  exact pe_meth (X := LamX.lamCx X A outer s H E scope f c') (pl := pl) (pv 3 (hN := h3) (hv := .inr (.inr v3))) (cl_Register T) (m_Register_take T) (ok_Register_take T) hr (b_Register_take T) .nil (passes_call (takes_of rfl rfl rfl rfl) fun _ _ _ _ h => h) (pa_cons (pv 12 (hN := h12) (hv := .inr (.inr v12))) pa_nil) rfl rfl e
theorem ok_law (T : Txt K mg) (S : ∃ es n, KDict K w (He.ga K "SIZES") es n) {c Pt : Addr} (TB : LamX.TabB base mg c Pt) (hc : (fdOf K (a_law K)).code = .ref c) {k : Nat}
    (ok_Prober_init : FnOk P w K mg base CX0 (k + 14) (a_Prober_init K) (fdOf K (a_Prober_init K)) ["self", "stack", "own"] (sp_Prober_init K))
    (ok_Prober_kinds : FnOk P w K mg base CX0 (k + 14) (a_Prober_kinds K) (fdOf K (a_Prober_kinds K)) ["self"] (sp_Prober_kinds K))
    (ok_Prober_fewest_runs : FnOk P w K mg base CX0 (k + 14) (a_Prober_fewest_runs K) (fdOf K (a_Prober_fewest_runs K)) ["self"] (sp_Prober_fewest K)) :
    FnOk P w K mg base CX0 (k + 16) (a_law K) (fdOf K (a_law K)) ["_law_script"] (sp_law K Pt) := by
  refine okC (f_law T) hc sc_law (fun vs H Q E h => ?_) (fun A outer s0 H vs Q E hr h => ?_)
  · obtain ⟨a, xs, rfl, _⟩ := h
    rfl
  · obtain ⟨a, xs, rfl, hxs, hP, k⟩ := h
    have ok_Prober_init := fun (T : Txt K mg) => ok_Prober_init
    have ok_Prober_kinds := fun (T : Txt K mg) => ok_Prober_kinds
    have ok_Prober_fewest_runs := fun (T : Txt K mg) => ok_Prober_fewest_runs
    have ok_w_tried := fun (T : Txt K mg) => ok_w_tried (P := P) (base := base) T S
    refine ⟨_, (pss_cons (ps_set (i := 1) sc_law.nd rfl (Or.inl rfl) (pe_lst (pa_cons (pv 0) (pa_cons pe_int (pa_cons pe_int (pa_cons pe_int pa_nil)))))) (pss_cons (ps_set (i := 2) sc_law.nd rfl (Or.inl rfl) (pe_call (ok_w_plain T) (hr.mono (by omega)) (by rfl) (g_w_plain T) (f_w_plain T).kp (b_w_plain T) .nil pass0 (pa_cons (pv 1) (pa_cons (pe_lst (pa_cons pe_str (pa_cons pe_str (pa_cons pe_str pa_nil)))) (pa_cons pe_int (pa_cons pe_int (pa_cons pe_bl pa_nil))))))) (pss_cons (ps_asg (pe_tup (pa_cons (pe_make (mk_Register T) (ok_Register_init T) (hr.mono (by omega)) (by rfl) (g_Register T) (b_Register_init T) .nil pass0 (pa_cons (pe_call (ok_w_made T) (hr.mono (by omega)) (by rfl) (g_w_made T) (f_w_made T).kp (b_w_made T) .nil pass0 (pa_cons (pv 2) pa_nil)) pa_nil)) (pa_cons (pe_lst pa_nil) (pa_cons (pe_lst pa_nil) pa_nil)))) (pg_tup rfl (pgs_cons (pg_name (i := 3) sc_law.nd rfl (Or.inr rfl)) (pgs_cons (pg_name (i := 4) sc_law.nd rfl (Or.inl rfl)) (pgs_cons (pg_name (i := 5) sc_law.nd rfl (Or.inl rfl)) pgs_nil))))) (pss_cons (ps_for PassesOwn.never rfl (pi_range1 (by rfl) (n_range T) (pa_cons (pe_op op_addU pe_int (pe_call (ok_w_taken T) (hr.mono (by omega)) (by rfl) (g_w_taken T) (f_w_taken T).kp (b_w_taken T) .nil pass0 (pa_cons (pv 1) (pa_cons pe_int pa_nil)))) pa_nil)) (pg_name (i := 6) sc_law.nd rfl (Or.inl rfl)) (pss_cons (ps_par (i := 8) (j := 9) rfl sc_law.nd rfl rfl (by decide) rfl rfl (pa_cons (pe_call (ok_w_rows T) (hr.mono (by omega)) (by rfl) (g_w_rows T) (f_w_rows T).kp (b_w_rows T) .nil pass0 (pa_cons (pv 2) pa_nil)) (pa_cons (pe_call (ok_w_taken T) (hr.mono (by omega)) (by rfl) (g_w_taken T) (f_w_taken T).kp (b_w_taken T) .nil pass0 (pa_cons (pv 1) (pa_cons pe_int pa_nil))) pa_nil)) (by rfl)) (pss_cons (ps_set (i := 7) sc_law.nd rfl (Or.inl rfl) (pe_join (pe_call (ok_w_known T) (hr.mono (by omega)) (by rfl) (g_w_known T) (f_w_known T).kp (b_w_known T) .nil pass0 (pa_cons (pv 1) (pa_cons (pv 8) (pa_cons (pe_call (ok_w_modules T) (hr.mono (by omega)) (by rfl) (g_w_modules T) (f_w_modules T).kp (b_w_modules T) .nil pass0 (pa_cons (pv 2) pa_nil)) pa_nil)))))) (pss_cons (ps_join (ps_if (PW.pt (pw_and (pt_cmpR op_eq (pv 9) pe_int (nomark _)) (pw_and1 (pt_cmpR op_notN (pv 7) pe_non (nomark _))))) (pss_cons (ps_par (i := 10) (j := 11) rfl sc_law.nd rfl rfl (by decide) rfl rfl (pa_cons (pe_call (ok_w_settled T) (hr.mono (by omega)) (by rfl) (g_w_settled T) (f_w_settled T).kp (b_w_settled T) .nil pass0 (pa_cons (pv 8) (pa_cons (pv 7) pa_nil))) (pa_cons (pe_callTy call_dictD (by rfl) (n_dict T) (by decide +kernel) (pa_cons (pv 7) pa_nil)) pa_nil)) (by rfl)) (pss_cons (ps_if (pt_not (pt_val (pe_call (ok_w_promised T) (hr.mono (by omega)) (by rfl) (g_w_promised T) (f_w_promised T).kp (b_w_promised T) .nil pass0 (pa_cons (pv 3) (pa_cons (pv 7) (pa_cons (pv 10) (pa_cons (pv 4) pa_nil))))))) (pss_one (ps_ret pe_bl)) pss_nil) (pss_cons (ps_expr (pe_bm PySem.F.plainAttrs_list PySem.F.slot_list_append PySem.F.type_list_append mt_append (pv 5) (pa_cons (pe_tup (pa_cons (pv 2) (pa_cons (pv 4) pa_nil))) pa_nil))) (pss_one (ps_set (i := 4) sc_law.nd rfl (Or.inl rfl) (pe_op op_addU (pv 4) (pe_lst (pa_cons (pe_tup (pa_cons (pv 11) (pa_cons (pv 10) pa_nil))) pa_nil)))))))) (pss_one (ps_if (PW.pt (pw_and (pt_cmpR op_gt (pv 9) pe_int (nomark _)) (pw_and1 (pt_cmpR op_gt (pe_callB call_len_seq (by rfl) (n_len T) (by decide +kernel) (pa_cons (pv 2) pa_nil)) pe_int (nomark _))))) (pss_cons (ps_set (i := 12) sc_law.nd rfl (Or.inr rfl) (pe_call (ok_w_taken T) (hr.mono (by omega)) (by rfl) (g_w_taken T) (f_w_taken T).kp (b_w_taken T) .nil pass0 (pa_cons (pv 1) (pa_cons (pe_callB call_len_seq (by rfl) (n_len T) (by decide +kernel) (pa_cons (pv 2) pa_nil)) pa_nil)))) (pss_cons (ps_set (i := 13) sc_law.nd rfl (Or.inl rfl) (pe_op op_addU (pe_slice sl_list (pv 2) po_none (po_some (pv 12))) (pe_slice sl_list (pv 2) (po_some (pe_op op_addU (pv 12) pe_int)) po_none))) (pss_cons (ps_set (i := 14) sc_law.nd rfl (Or.inl rfl) (pe_call (ok_w_broken T) (hr.mono (by omega)) (by rfl) (g_w_broken T) (f_w_broken T).kp (b_w_broken T) .nil pass0 (pa_cons (pv 13) (pa_cons (pv 4) pa_nil)))) (pss_cons (ps_if (pt_cmpR op_ne (pe_take T TB rfl (hr.mono (by omega)) (by rfl) (show LamX.LamS (defScope s_law) _ from LamX.lamS_by (by decide +kernel)) rfl (fun _ _ _ _ _ => rfl) rfl rfl rfl rfl (fun _ _ _ _ _ _ _ => ⟨_, rfl⟩)) (pv 14) (nomark _)) (pss_one (ps_ret pe_bl)) pss_nil) (pss_one (ps_if (pt_cmpR op_isN (pv 14) pe_non (nomark _)) (pss_cons (ps_expr (pe_bm PySem.F.plainAttrs_list PySem.F.slot_list_append PySem.F.type_list_append mt_append (pv 5) (pa_cons (pe_tup (pa_cons (pv 2) (pa_cons (pv 4) pa_nil))) pa_nil))) (pss_one (ps_set (i := 2) sc_law.nd rfl (Or.inl rfl) (pv 13)))) pss_nil)))))) pss_nil)))) (pss_cons (ps_if (pt_cmpR (op_neO (im_Stack T) (sn_Stack_ne T) (fi_Stack_eq T) (fn_Stack_eq T) ((ok_Stack_eq T).raw (b_Stack_eq T) .nil) (hr.mono (by omega)) pass0) (pe_meth0 (pv 3) (cl_Register T) (m_Register_stack T) (ok_Register_stack T) (hr.mono (by omega)) (b_Register_stack T) .nil pass0) (pe_call (ok_w_made T) (hr.mono (by omega)) (by rfl) (g_w_made T) (f_w_made T).kp (b_w_made T) .nil pass0 (pa_cons (pv 2) pa_nil)) (nomark _)) (pss_one (ps_ret pe_bl)) pss_nil) (pss_cons (ps_if (pt_cmpR (op_neRows (hr.mono (by omega))) (pe_prop (pv 3) (cl_Register T) (p_Register_promises T) (ok_Register_promises T) (hr.mono (by omega)) (b_Register_promises T) .nil pass0 (by rfl)) (pv 4) (nomark _)) (pss_one (ps_ret pe_bl)) pss_nil) (pss_one (ps_if (pt_cmpR op_ne (pe_callB call_len_seq (by rfl) (n_len T) (by decide +kernel) (pa_cons (pe_prop (pv 3) (cl_Register T) (p_Register_history T) (ok_Register_history T) (hr.mono (by omega)) (b_Register_history T) .nil pass0 (by rfl)) pa_nil)) (pe_callB call_len_seq (by rfl) (n_len T) (by decide +kernel) (pa_cons (pv 5) pa_nil)) (nomark _)) (pss_one (ps_ret pe_bl)) pss_nil)))))))) (pss_cons (ps_if (PW.pt (pw_and (pt_cmpR (op_neL0 (hu_of hr)) (pv 5) (pe_lst pa_nil) (nomark _)) (pw_and1 (pt_not (pt_val (pe_call (ok_w_tried T) (hr.mono (by omega)) (by rfl) (g_w_tried T) (f_w_tried T).kp (b_w_tried T) .nil pass0 (pa_cons (pv 3) (pa_cons (pv 5) pa_nil)))))))) (pss_one (ps_ret pe_bl)) pss_nil) (pss_cons (ps_set (i := 15) sc_law.nd rfl (Or.inl rfl) (pe_make (mk_Prober T) (ok_Prober_init T) (hr.mono (by omega)) (by rfl) (g_Prober T) (b_Prober_init T) .nil pass0 (pa_cons (pe_call0 (ok_w_eight T) (hr.mono (by omega)) (by rfl) (g_w_eight T) (f_w_eight T).kp (b_w_eight T) .nil pass0) (pa_cons (pe_tup (pa_cons pe_str (pa_cons pe_str (pa_cons pe_str pa_nil)))) pa_nil)))) (pss_one (ps_ret (pe_and (pe_cmpR op_eq (pe_callB call_len_seq (by rfl) (n_len T) (by decide +kernel) (pa_cons (pe_meth0 (pv 15) (cl_Prober T) (m_Prober_kinds T) (ok_Prober_kinds T) (hr.mono (by omega)) (b_Prober_kinds T) .nil pass0) pa_nil)) pe_int (nomark _)) (pe_one (pe_cmpR op_eq (pe_meth0 (pv 15) (cl_Prober T) (m_Prober_fewest_runs T) (ok_Prober_fewest_runs T) (hr.mono (by omega)) (b_Prober_fewest_runs T) .nil pass0) pe_int (nomark _)))))))))))), ?_⟩
    have smB : Same (off H Pt) H := fun z u e => by
      by_cases q : z = Pt
      · rw [q, off_same] at e; cases e
      · rw [off_ne q] at e; exact e
    refine ⟨_, rfl, line_le (show 4 ≤ 1000000 by decide), fun r hr0 => ?_⟩
    have l1 := Gr.hid (M := M0) (o := .lst [.ref a, .int 0, .int 0, .int 0]) smB hr0
    have hW0 : Wr K (off H Pt) (upd H r (.lst [.ref a, .int 0, .int 0, .int 0])) r := ⟨smB.free hr0, a, xs, 0, 0, 0, upd_same, sqL_off hP hxs, Int.le_refl _, Int.le_refl _⟩
    have hT0 : LamX.Tabs [(Pt, ("law" : Str) ++ ".<locals>." ++ "<lambda>")] H := fun p hp => by
      rw [List.mem_singleton.mp hp]
      exact LamX.TabS.nil hP
    have T1 := tabs_gr l1 (fun _ _ z => z.elim) hT0
    refine ⟨_, rfl, line_le (show 3 ≤ 1000000 by decide), fun nl hnl => ?_⟩
    have l2 := Gr.lay (M := M0) (o := .lst [.str "key", .str "pin", .str "card"]) l1.sub hnl
    have T2 := tabs_gr l2 (fun _ _ z => z.elim) T1
    refine ⟨_, r, nl, 5, nm3, rfl, hW0.go0 l2, upd_same, by decide, by decide, by decide +kernel, by decide, l2.sub, fun pv es B2 H2 g2 hW2 hp2 gd _ => ?_⟩
    have T3 := tabs_gr g2 (fun z o hz ho => by
      obtain ⟨_, sc, xs, a, b, c, h1, _⟩ := hW0.go0 l2
      rw [hz, h1] at ho
      cases ho
      exact nt_lst) T2
    have b2 : B2 Pt = none := g2.new _ _ (l2.new _ _ (l1.new _ _ off_same hP) (l1.same _ _ hP)) (l2.same _ _ (l1.same _ _ hP))
    refine ⟨_, rfl, B2, pv, es, rfl, hp2, fun _ _ => trivial, gd.okS.1, g2.sub, fun sv B3 H3 g3 hsv => ?_⟩
    dsimp only [tNil]
    refine mk_register hsv g3.sub (fun d ddx s sdx B4 H4 g4 hD4 => ?_)
    refine ⟨line_le (show 0 ≤ 1000000 by decide), fun v1 hv1 => ⟨line_le (show 0 ≤ 1000000 by decide), fun pl hpl => ⟨line_le (show 3 ≤ 1000000 by decide), fun t ht => ?_⟩⟩⟩
    have l5 := Gr.lay (M := M0) (o := .lst []) g4.sub hv1
    obtain ⟨ps3, p3, _⟩ := T3 (Pt, _) (List.mem_singleton.mpr rfl)
    have l6 := Gr.hid (M := M0) (o := .lst []) l5.sub hpl
    have l7 := Gr.hid (M := M0) (o := .tup [.ref d, .ref v1, .ref pl]) l6.sub ht
    have gA := ((((g3.then0 g4).then0 l5).then0 l6).then0 l7)
    have V0 : LV K _ _ r d ddx s sdx pl ⟨⟨es, [], []⟩, [], []⟩ pv (.ref v1) [] Pt (("law" : Str) ++ ".<locals>." ++ "<lambda>") 0 :=
      ⟨hW2.go0 gA, ((hD4.go0 l5).go0 l6).go0 l7, l5.sub.free hpl, l7.same _ _ upd_same, mono_plain _ _ _ _ gA.base hp2, ⟨v1, [], rfl, upd_same, trivial⟩, trivial, fun _ z => absurd z (by simp), ⟨⟨gd.okS.1, Nat.le_trans gd.okS.2 (by decide), Nat.zero_le _, fun _ z => absurd z (by simp)⟩, rfl, rfl, gd⟩, rfl, Nat.le_refl _, Nat.le_refl _,
        gA.new _ _ b2 p3, tabs_gr gA (fun _ _ z => z.elim) T3, gA.sub⟩
    refine ⟨t, _, rfl, .inl (.inl upd_same), rfl, _, _, rfl, _, _, rfl, _, _, rfl, rfl, ?_⟩
    have hpr : pl ≠ r := by
      obtain ⟨_, _, _, _, _, _, hr1, _⟩ := hW2.go0 ((g3.then0 g4).then0 l5)
      exact (ne_of_none hr1 hpl).symm
    refine ⟨_, rfl, _, r, 9, rfl, V0.wr, by decide, by decide, V0.sm, fun cnt B8 H8 g8 hW8 c0 c9 => .inl ⟨1, cnt, rfl, rfl, 1 + cnt, rfl, by omega, by omega, ?_⟩⟩
    have V8 := V0.goR hpr g8 hW8
    refine for_it walk_range (fun i σ H' => ∃ (B : Hp) (st : Stt) (pv vv : V) (us : List V) (x6 x7 x8 x9 x10 x11 x12 x13 x14 : Option V), LV K B H' r d ddx s sdx pl st pv vv us Pt (("law" : Str) ++ ".<locals>." ++ "<lambda>") i ∧ σ = [some (.ref a), some (.ref r), some pv, some (.ref d), some vv, some (.ref pl), x6, x7, x8, x9, x10, x11, x12, x13, x14, none])
      ⟨_, _, _, _, _, none, none, none, none, none, none, none, none, none, V8, rfl⟩ (fun _ _ _ _ _ => trivial) (fun i x σ H0' H1 hi hv y => ?_) (fun σ H' hv => ?_)
    · obtain ⟨B1, st, pv, vv, us, x6, x7, x8, x9, x10, x11, x12, x13, x14, V1, rfl⟩ := hv
      obtain ⟨rfl, rfl⟩ := y
      have hi10 : i < 10 := by omega
      have hes := V1.now.gd.len
      have hrl := V1.now.gd.rl
      refine ⟨_, rfl, B1, pv, st.now.es, rfl, V1.pp, V1.now.ok.es, V1.sm, fun rv B2 H2 g2 hrv => ?_⟩
      have V2 := V1.go0 g2
      refine ⟨_, rfl, B2, r, 3, rfl, V2.wr, by decide, by decide, V2.sm, fun way B3 H3 g3 hW3 w0 w3 => ⟨_, _, rfl, ?_⟩⟩
      have V3 := V2.goR hpr g3 hW3
      refine ⟨fun v H' => ∃ B', LV K B' H' r d ddx s sdx pl st pv vv us Pt (("law" : Str) ++ ".<locals>." ++ "<lambda>") i ∧ (v = .non ∨
        ∃ e kn, v = .ref e ∧ RLst ((rowsOf st.now.es).map (rRow K)) rv B' ∧ B' e = none ∧ H' e = some (.dK (ansV kn)) ∧ (kn.map (·.1)).Nodup ∧ (∀ p ∈ kn, p.1 ∈ modsOf st.now.es ∧ p.2 ∈ results) ∧ kn.length ≤ 6 ∧ settle (rowsOf st.now.es) kn ≠ "open"), ?_, fun v H5 ⟨B5, V5, hj⟩ => ?_⟩
      · refine ⟨_, rfl, _, rfl, _, rfl, B3, pv, st.now.es, rfl, V3.pp, by omega, by omega, V3.sm, fun mv B4 H4 g4 hm => ?_⟩
        obtain ⟨ml, rfl, hml⟩ := hm
        have V4 := V3.go0 g4
        have hrv4 := mono_lst (mem_map_mono mono_row) _ _ _ (g3.base.trans g4.base) hrv
        refine ⟨B4, r, ml, rv, rowsOf st.now.es, modsOf st.now.es, rfl, V4.wr, hrv4, hml, nodup_sortS _, Nat.le_trans V1.now.ok.ml (by decide), fun x hx => ?_, Nat.le_trans (rows_len V1.now.ok.ml) (by decide), V4.sm, fun e kn B5 H5 g5 hW5 e0 eb he nd hk kl hs => ?_, fun B5 H5 g5 hW5 => ?_⟩
        · obtain ⟨z, hz, rfl⟩ := List.mem_map.mp hx
          exact (allAns_full hz).1
        · exact ⟨B5, V4.goR hpr g5 hW5, .inr ⟨e, kn, rfl, mono_lst (mem_map_mono mono_row) _ _ _ g5.base hrv4, eb, he, nd, hk, kl, hs⟩⟩
        · exact ⟨B5, V4.goR hpr g5 hW5, .inl rfl⟩
      · refine ⟨fun σ H' => ∃ (B : Hp) (st : Stt) (pv vv : V) (us : List V) (x6 x7 x8 x9 x10 x11 x12 x13 x14 : Option V), LV K B H' r d ddx s sdx pl st pv vv us Pt (("law" : Str) ++ ".<locals>." ++ "<lambda>") (i + 1) ∧ σ = [some (.ref a), some (.ref r), some pv, some (.ref d), some vv, some (.ref pl), x6, x7, x8, x9, x10, x11, x12, x13, x14, none], ?_, fun σ' H6 hv => ?_⟩
        · refine ifS_b (decide (way = 0) && !decide (v = .non)) (fun Q hq => ?_) (fun hb => ?_) (fun hb => ?_)
          · refine ⟨_, rfl, rfl, _, rfl, ?_⟩
            have e0 : decide (V.int way = V.int 0) = decide (way = 0) := by rw [dec_int]; by_cases z : way = 0 <;> simp [z]
            rw [e0]
            by_cases c1 : way = 0
            · rw [decide_eq_true c1] at hq ⊢
              exact iteT ⟨_, rfl, rfl, _, rfl, hq⟩
            · rw [decide_eq_false c1] at hq ⊢
              exact iteF hq
          · obtain ⟨b1, b2⟩ := Bool.and_eq_true_iff.mp hb
            rcases hj with rfl | ⟨e, kn, rfl, hrv5, eb, he, nd, hk, kl, hs⟩
            · exact absurd b2 (by decide)
            have smE : Same (upd B5 e (.dK (ansV kn))) H5 := fun z u hz => by
              by_cases q : z = e
              · rw [q, upd_same] at hz; cases hz; rw [q]; exact he
              · rw [upd_ne q] at hz; exact V5.sm _ _ hz
            have hne : ∀ z u, B5 z = some u → z ≠ e := fun z u hz => ne_of_none hz eb
            have sBE : Same B5 (upd B5 e (.dK (ansV kn))) := fun z u hz => by rw [upd_ne (hne z u hz)]; exact hz
            refine ⟨_, rfl, _, rfl, upd B5 e (.dK (ansV kn)), rv, e, rowsOf st.now.es, kn, rfl, mono_lst (mem_map_mono mono_row) _ _ _ sBE hrv5, upd_same, fun x hx p hp => ?_, nd, by omega, Nat.le_trans (rows_len V1.now.ok.ml) (by decide), smE, fun wv B6 H6 g6 hwv => ?_⟩
            · obtain ⟨z, hz, rfl⟩ := List.mem_map.mp hx
              show p.1 ∈ z.map (·.1)
              rw [(allAns_full hz).1]
              exact (hk p hp).1
            cases hwv
            have gU := g6.untell eb he
            have V6 := V5.go0 gU
            have he6 := gU.same _ _ he
            refine ⟨_, rfl, e, _, rfl, .inl he6, fun q1 hq1 => ⟨_, _, rfl, ?_⟩⟩
            have l7 := Gr.lay (M := M0) (o := .dK (ansV kn)) V6.sm hq1
            have V7 := V6.go0 l7
            have hb7 := (gU.then0 l7).new _ _ eb he
            obtain ⟨vl, ws, rfl, hvl, hvP⟩ := id V7.vo
            have hwl : ws.length = st.now.vows.length := by have := hvP.length; rw [List.length_map] at this; exact this.symm
            have hhe : here (modsOf st.now.es) kn = kn := here_all fun p hp => (hk p hp).1
            have kok : KOk ⟨st.now.es, st.now.vows ++ [(kn, settle (rowsOf st.now.es) kn)], st.now.noted⟩ := ⟨V1.now.ok.es, V1.now.ok.ml, by have := V1.vn; show (st.now.vows ++ [_]).length ≤ 1000; rw [List.length_append]; show st.now.vows.length + 1 ≤ 1000; omega, fun v hv => by
              rcases List.mem_append.mp hv with hv | hv
              · exact V1.now.ok.vk v hv
              · rw [List.mem_singleton.mp hv]
                exact ⟨by show kn.length ≤ 1000; omega, nd⟩⟩
            have kbr : broken st.now.es (st.now.vows ++ [(kn, settle (rowsOf st.now.es) kn)]) = none := brokenAt_snoc _ _ _ _ V1.now.br (by dsimp only; rw [hhe])
            refine ⟨_, rfl, _, rfl, _, rfl, _, rfl, _, d, ddx, s, sdx, st, e, vl, kn, settle (rowsOf st.now.es) kn, ws, rfl, V7.dk, l7.same _ _ he6, hb7, hk, settle_word hs, kok, kbr, by have := V1.pn; omega, hvl, hwl, V7.sm, fun B8 H8 g8 hD8 => ⟨_, rfl, iteF ?_⟩⟩
            have he7 := l7.same _ _ he6
            have npl : ¬ (pl = s ∨ pl = sdx ∨ pl = e) := fun z => by
              rcases z with z | z | z
              · exact V7.nes.2.2.2.2.1 z.symm
              · exact V7.nes.2.2.2.2.2 z.symm
              · exact ne_of V7.ph he7 (fun z => by cases z) z
            have nr : ¬ (r = s ∨ r = sdx ∨ r = e) := fun z => by
              rcases z with z | z | z
              · exact V7.nes.2.1 z.symm
              · exact V7.nes.2.2.1 z.symm
              · obtain ⟨_, _, _, _, _, _, hr1, _⟩ := V7.wr
                exact ne_of hr1 he7 (fun z => by cases z) z
            have h8 := g8.keep _ _ npl V7.ph
            refine ⟨_, rfl, .inl ⟨rfl, us, SqL.of h8⟩, _, rfl, _, rfl, line_le (show 2 ≤ 1000000 by decide), fun t1 ht1 => ?_⟩
            have l9 := Gr.lay (M := M0) (o := .tup [pv, .ref vl]) g8.sub ht1
            have hul : us.length ≤ 1000 := by
              have := V5.pa.length
              rw [List.length_map] at this
              have := V5.pn
              omega
            refine ⟨pl, us, .ref t1, rfl, rfl, l9.same _ _ h8, line_lt (show us.length ≤ 1000000 by omega), ?_⟩
            have mk8 : MOk (fun z => z = s ∨ z = sdx ∨ z = e) _ _ := fun z hz => by
              rcases hz with hz | hz | hz
              · exact V7.dk.st.mok z (.inl hz)
              · exact V7.dk.st.mok z (.inr hz)
              · rw [hz]; exact ⟨hb7, _, he7⟩
            have g9 := Gr.trans mk8 g8 l9.up
            have pb9 := g9.new _ _ V7.pb V7.ph
            have gs := Gr.set (M := fun z => z = pl) (o := .lst (us ++ [.ref t1])) g9.sub pb9 rfl
            refine ⟨_, rfl, _, rfl, _, rfl, line_le (show 2 ≤ 1000000 by decide), fun t2 ht2 => ⟨line_le (show 1 ≤ 1000000 by decide), fun t3 ht3 => ?_⟩⟩
            have l10 := Gr.lay (M := M0) (o := .tup [.ref q1, .str (settle (rowsOf st.now.es) kn)]) gs.sub ht2
            have l11 := Gr.lay (M := M0) (o := .lst [.ref t2]) l10.sub ht3
            have gl := l10.then0 l11
            have hvl9 := g9.base _ _ hvl
            refine .inr (.inl ⟨vl, t3, ws, [.ref t2], rfl, rfl, gl.sub _ _ (gl.base _ _ hvl9), upd_same, line_le (show ws.length + 1 ≤ 1000000 by have := V1.vn; omega), fun t4 ht4 => ?_⟩)
            have l12 := Gr.lay (M := M0) (o := .lst (ws ++ [.ref t2])) l11.sub ht4
            have gF := gl.then0 l12
            have hrow : rRow K (kn, settle (rowsOf st.now.es) kn) (.ref t2) _ := ⟨t2, q1, rfl, .inl (.inl ((l11.base.trans l12.base) _ _ upd_same)), (g9.base.trans gF.base) _ _ upd_same⟩
            have V' := V7.push (st' := ⟨⟨st.now.es, st.now.vows ++ [(kn, settle (rowsOf st.now.es) kn)], st.now.noted⟩, st.past ++ [st.now], []⟩) (pv' := pv) (vv' := .ref t4) g9 (fun z o hz ho => by
                obtain ⟨nv, qv, ev, uv, wv, a0, _⟩ := V7.dk.st.ex
                rcases hz with hz | hz | hz
                · rw [hz, a0] at ho
                  cases ho
                  exact nt_sl
                · rw [hz, V7.dk.st.dx] at ho
                  cases ho
                  exact nt_xd
                · rw [hz, he7] at ho
                  cases ho
                  exact nt_dK) nr npl
              (hD8.go0 l9) rfl rfl ⟨kok, V1.now.no, kbr, V1.now.gd⟩ (by show (st.now.vows ++ [_]).length ≤ i + 1; rw [List.length_append]; exact Nat.succ_le_succ V1.vn) (.inl (.inl upd_same)) hpr gF
              (mono_plain _ _ _ _ (g9.base.trans gF.base) V7.pp) ⟨t4, _, rfl, upd_same, by
                rw [List.map_append]
                exact PairR.snoc (hvP.mono (g9.base.trans gF.base) (mem_map_mono mono_row)) hrow⟩
            exact ⟨_, _, _, _, _, _, _, _, _, _, _, _, _, _, V', rfl⟩
          · obtain ⟨pp, pys, rfl, hpp, hPP⟩ := id V5.pp
            have hpl : pys.length = st.now.es.length := by have := hPP.length; rw [List.length_map] at this; exact this.symm
            refine ifS_b (decide (0 < way) && decide (0 < st.now.es.length)) (fun Q hq => ?_) (fun hb => ?_) (fun hb => ?_)
            · refine ⟨_, rfl, way, 0, rfl, rfl, _, rfl, ?_⟩
              by_cases c1 : 0 < way
              · rw [decide_eq_true c1] at hq ⊢
                refine iteT ⟨_, rfl, pp, pys, rfl, .inl (SqL.of (V5.sm _ _ hpp)), _, 0, rfl, rfl, _, rfl, ?_⟩
                have e : decide ((0 : Int) < (pys.length : Nat)) = decide (0 < st.now.es.length) := decide_eq_decide.mpr (by rw [hpl]; omega)
                rw [e]
                exact hq
              · rw [decide_eq_false c1] at hq ⊢
                exact iteF hq
            · obtain ⟨b1, b2⟩ := Bool.and_eq_true_iff.mp hb
              have le := of_decide_eq_true b2
              refine ⟨_, rfl, _, rfl, pp, pys, rfl, .inl (SqL.of (V5.sm _ _ hpp)), B5, r, _, rfl, V5.wr, by omega, by omega, V5.sm, fun ix B6 H6 g6 hW6 i0 i1 => ?_⟩
              obtain ⟨m, rfl⟩ := Int.eq_ofNat_of_zero_le i0
              have hm : m < st.now.es.length := by omega
              have V6 := V5.goR hpr g6 hW6
              have hpp6 := g6.base _ _ hpp
              refine ⟨_, rfl, _, rfl, (m : Int), rfl, pp, pys, rfl, SqL.of (V6.sm _ _ hpp6), fun q1 hq1 => ?_⟩
              have l7 := Gr.lay (M := M0) (o := .lst (cutV pys none (some (m : Int)))) V6.sm hq1
              refine ⟨_, rfl, _, rfl, .inl ⟨(m : Int), 1, rfl, rfl, (m : Int) + 1, rfl, pp, pys, rfl, SqL.of (l7.sub _ _ (l7.base _ _ hpp6)), fun q2 hq2 => ?_⟩⟩
              have l8 := Gr.lay (M := M0) (o := .lst (cutV pys (some ((m : Int) + 1)) none)) l7.sub hq2
              have c1 : cutV pys none (some (m : Int)) = pys.take m := cut_take pys (by omega)
              have c2 : cutV pys (some ((m : Int) + 1)) none = pys.drop (m + 1) := cut_drop pys (i := m + 1) (by omega)
              refine .inr (.inl ⟨q1, q2, _, _, rfl, rfl, l8.same _ _ upd_same, upd_same, line_le (by rw [c1, c2, List.length_take, List.length_drop]; omega), fun q3 hq3 => ?_⟩)
              rw [c1, c2] at hq3 ⊢
              rw [c1] at l7
              rw [c1, c2] at l8
              have l9 := Gr.lay (M := M0) (o := .lst (pys.take m ++ pys.drop (m + 1))) l8.sub hq3
              have gl := (l7.then0 l8).then0 l9
              have V9 := V6.go0 gl
              have hnew : rPlain K (st.now.es.take m ++ st.now.es.drop (m + 1)) (.ref q3) _ := ⟨q3, _, rfl, upd_same, by
                have hP9 := hPP.mono (g6.base.trans gl.base) (mem_map_mono mono_enL)
                rw [List.map_append, List.map_take, List.map_drop]
                exact (hP9.take m).app (hP9.drop (m + 1))⟩
              have gd' : GoodPl nm3 5 (st.now.es.take m ++ st.now.es.drop (m + 1)) := V5.now.gd.drop m
              have kok : KOk ⟨st.now.es.take m ++ st.now.es.drop (m + 1), st.now.vows, st.now.noted⟩ := ⟨gd'.okS.1, Nat.le_trans gd'.okS.2 (by decide), V5.now.ok.vl, V5.now.ok.vk⟩
              refine ⟨_, rfl, _, rfl, _, .ref q3, vv, st.now.es.take m ++ st.now.es.drop (m + 1), st.now.vows, rfl, hnew, V9.vo, gd'.okS.1, V5.now.ok.vl, V5.now.ok.vk, kok.ml, V9.sm, fun bv B10 H10 g10 hbv => ?_⟩
              cases hbv
              have V10 := V9.go0 g10
              have hnew10 := mono_plain _ _ _ _ g10.base hnew
              refine ⟨V10.tabs, fun H11 eP t11 => ?_⟩
              have V11 := V10.lam eP t11
              refine ⟨_, rfl, d, ddx, _, rfl, V11.dk.hd, rfl, _, rfl, B10, d, ddx, s, sdx, st, m, st.now.es.take m ++ st.now.es.drop (m + 1), rfl, rfl, V11.dk, hm, V5.now.ok.es, Nat.le_trans (V5.now.gd.both gd') (by decide), kok, by have := V5.pn; omega, V11.sm, fun hbn n B12 H12 g12 hD12 => ?_, fun j hbj dx B12 H12 g12 hx => ?_⟩
              · have eb : brk (st.now.es.take m ++ st.now.es.drop (m + 1)) st.now.vows = .non := by unfold brk; rw [hbn]
                rw [eb]
                refine ⟨_, rfl, rfl, _, rfl, iteF ?_⟩
                refine ⟨_, rfl, rfl, _, rfl, iteT ?_⟩
                have h12 := Gr.keep g12 _ _ (fun z => z.elim (fun e => V11.nes.2.2.2.2.1 e.symm) fun e => V11.nes.2.2.2.2.2 e.symm) V11.ph
                refine ⟨_, rfl, .inl ⟨rfl, us, SqL.of h12⟩, _, rfl, _, rfl, line_le (show 2 ≤ 1000000 by decide), fun t1 ht1 => ?_⟩
                have l13 := Gr.lay (M := M0) (o := .tup [.ref pp, vv]) g12.sub ht1
                have hul : us.length ≤ 1000 := by
                  have := V5.pa.length
                  rw [List.length_map] at this
                  have := V5.pn
                  omega
                refine ⟨pl, us, .ref t1, rfl, rfl, l13.same _ _ h12, line_lt (show us.length ≤ 1000000 by omega), ?_⟩
                have g13 : Gr (SM s sdx) B10 H11 _ _ := Gr.trans V11.dk.st.mok g12 l13.up
                have pb13 := g13.new _ _ V11.pb V11.ph
                have V' := V11.push (st' := ⟨⟨st.now.es.take m ++ st.now.es.drop (m + 1), st.now.vows, st.now.noted⟩, st.past ++ [st.now], []⟩) (pv' := .ref q3) (vv' := vv) g13 (fun z o hz ho => by
                    obtain ⟨nv, qv, ev, uv, wv, a0, _⟩ := V11.dk.st.ex
                    rcases hz with hz | hz
                    · rw [hz, a0] at ho
                      cases ho
                      exact nt_sl
                    · rw [hz, V11.dk.st.dx] at ho
                      cases ho
                      exact nt_xd) (fun z => z.elim (fun e => V11.nes.2.1 e.symm) fun e => V11.nes.2.2.1 e.symm) (fun z => z.elim (fun e => V11.nes.2.2.2.2.1 e.symm) fun e => V11.nes.2.2.2.2.2 e.symm)
                  (hD12.go0 l13) rfl rfl ⟨kok, V5.now.no, hbn, gd'⟩ (Nat.le_succ_of_le V5.vn) (.inl (.inl upd_same)) hpr (Gr.refl (Gr.set (M := fun z => z = pl) (o := .lst (us ++ [.ref t1])) g13.sub pb13 rfl).sub)
                  (mono_plain _ _ _ _ g13.base hnew10) (mono_lst (mem_map_mono mono_row) _ _ _ g13.base V11.vo)
                exact ⟨_, rfl, _, _, _, _, _, _, _, _, _, _, _, _, _, _, V', rfl⟩
              · have eb : brk (st.now.es.take m ++ st.now.es.drop (m + 1)) st.now.vows = .int j := by unfold brk; rw [hbj]
                rw [eb]
                refine ⟨rfl, dx, .int j, rfl, g12.sub _ _ hx, _, rfl, rfl, _, rfl, ?_⟩
                rw [show (!decide (V.int (j : Int) = V.int (j : Int))) = false by simp]
                refine iteF ⟨_, rfl, rfl, _, rfl, iteF ?_⟩
                exact ⟨_, _, _, _, _, _, _, _, _, _, _, _, _, _, (V11.go0 g12).next, rfl⟩
            · exact ⟨_, _, _, _, _, _, _, _, _, _, _, _, _, _, V5.next, rfl⟩
        · obtain ⟨B, st', pv', vv', us', x6, x7, x8, x9, x10, x11, x12, x13, x14, V, rfl⟩ := hv
          refine ⟨_, rfl, d, ddx, _, rfl, V.dk.hd, rfl, B, d, ddx, s, sdx, st', rfl, V.dk, fun v1 hv1 => ?_⟩
          refine ⟨_, rfl, B, pv', st'.now.es, rfl, V.pp, fun _ _ => trivial, V.now.ok.es, V.sm, fun v2 B2 H2 g2 hv2 => ?_⟩
          have V2 := V.go0 g2
          have hw1 := mono_stack _ _ _ _ (g2.base.trans g2.sub) hv1
          have hw2 := mono_stack _ _ _ _ g2.sub hv2
          obtain ⟨qa, qdx, qp, qst, qn, qxs, qws, rfl, hqI, _⟩ := id hw1
          obtain ⟨ra, rdx, rp, rst, rn, rxs, rws, rfl, hrI, _⟩ := id hw2
          refine ⟨qa, ra, qdx, rdx, _, _, rfl, rfl, hqI, hrI, qa, ra, rfl, ⟨st'.now.es, hw1, hw2, fun x hx => (Bool.and_eq_true_iff.mp (V.now.ok.es.ru x hx)).2⟩, fun H3 e3 => ⟨true, rfl, _, rfl, iteF ?_⟩⟩
          have g3 : Gr M0 B2 H2 B2 H3 := Gr.ext g2.sub e3
          have V3 := V2.go0 g3
          refine ⟨_, rfl, d, _, _, rfl, V3.dk.hd, B2, d, ddx, s, sdx, st', rfl, V3.dk, V.now.ok.vl, V3.sm, fun v4 B4 H4 g4 hv4 => ?_⟩
          have V4 := V3.go0 g4
          refine ⟨_, rfl, rows_eq V4.sm (fun x hx => (V.now.ok.vk x hx).2) hv4 V4.vo, fun H5 e5 => ⟨_, rfl, iteF ?_⟩⟩
          have g5 : Gr M0 B4 H4 B4 H5 := Gr.ext g4.sub e5
          have V5 := V4.go0 g5
          refine ⟨_, rfl, d, _, _, rfl, V5.dk.hd, B4, d, ddx, s, sdx, st', rfl, V5.dk, by have := V.pn; omega, V5.sm, fun v6 B6 H6 g6 hv6 => ?_⟩
          obtain ⟨hp, hys, rfl, hhp, hhP⟩ := hv6
          have V6 := V5.go0 g6
          refine ⟨hp, hys, rfl, .inl (SqL.of (g6.sub _ _ hhp)), _, rfl, pl, us', rfl, .inl (SqL.of V6.ph), rfl, _, rfl, ?_⟩
          have el : hys.length = us'.length := by
            have e1 := hhP.length
            have e2 := V6.pa.length
            rw [List.length_map] at e1 e2
            omega
          rw [el, show (!decide (L2.V.int ((us'.length : Nat) : Int) = L2.V.int ((us'.length : Nat) : Int))) = false by simp]
          exact iteF ⟨_, _, _, _, _, _, _, _, _, _, _, _, _, _, V6, rfl⟩
    · obtain ⟨B, st, pv, vv, us, x6, x7, x8, x9, x10, x11, x12, x13, x14, V, rfl⟩ := hv
      have hn10 : st.past.length ≤ 10 := by have := V.pn; omega
      have hpl : us.length = st.past.length := by have := V.pa.length; rw [List.length_map] at this; exact this.symm
      dsimp only [tSeq]
      refine ifS_P (fun _ => False) (fun _ => True) (fun Q _ hq => ?_) (fun _ z => z.elim) (fun H2 _ => ?_)
      · refine ⟨_, rfl, line_le (show 0 ≤ 1000000 by decide), fun n0 hn0 => ⟨pl, n0, us, rfl, rfl, SqL.of (by rw [upd_ne (ne_of_none V.ph hn0)]; exact V.ph), SqL.of upd_same, _, rfl, ?_⟩⟩
        have l1 := Gr.lay (M := M0) (o := .lst []) V.sm hn0
        have V1 := V.go0 l1
        rcases eq_or_snoc us with rfl | ⟨us0, v0, rfl⟩
        · exact iteF (hq _ trivial)
        · obtain ⟨ks, kp, hks⟩ : ∃ ks kp, st.past = ks ++ [kp] := by
            rcases eq_or_snoc st.past with z | z
            · rw [z] at hpl; simp at hpl
            · exact z
          obtain ⟨R, hR, hR2⟩ := V1.pa.at_ (i := us0.length) (v := v0) (by rw [List.getElem?_append_right (Nat.le_refl _), Nat.sub_self]; rfl)
          have hkl : ks.length = us0.length := by rw [hks] at hpl; simp only [List.length_append, List.length_singleton] at hpl; omega
          rw [hks, List.map_append, List.getElem?_append_right (by rw [List.length_map]; omega), List.length_map, hkl, Nat.sub_self] at hR
          cases hR
          obtain ⟨t, pp, lv, rfl, ht, hpp, hlv⟩ := hR2
          have fk : Fine kp := V.fine kp (by rw [hks]; simp)
          have sB : Same (upd B n0 (.lst [])) (upd (upd B n0 (.lst [])) pl (.lst (us0 ++ [.ref t]))) := fun z u hz => by rw [upd_ne (ne_of_none hz V1.pb)]; exact hz
          have sm' : Same (upd (upd B n0 (.lst [])) pl (.lst (us0 ++ [.ref t]))) (upd H' n0 (.lst [])) := fun z u hz => by
            by_cases q : z = pl
            · rw [q, upd_same] at hz; cases hz; rw [q]; exact V1.ph
            · rw [upd_ne q] at hz; exact V1.sm _ _ hz
          have hD' : Dk K (upd (upd B n0 (.lst [])) pl (.lst (us0 ++ [.ref t]))) (upd H' n0 (.lst [])) d ddx s sdx st := ⟨V1.dk.hd, by rw [upd_ne V1.nes.2.2.2.1]; exact V1.dk.hb, V1.dk.st.told V1.pb (fun e => V1.nes.2.2.2.2.1 e.symm) (fun e => V1.nes.2.2.2.2.2 e.symm)⟩
          have ne : (!(us0 ++ [L2.V.ref t]).isEmpty) = true := by cases us0 <;> rfl
          show (if (!(us0 ++ [L2.V.ref t]).isEmpty) = true then _ else _)
          rw [ne]
          refine iteT ?_
          refine ⟨_, rfl, _, rfl, _, d, ddx, s, sdx, st, ks, kp, pl, us0, t, pp, lv, rfl, hD', hks, V.un, fk.ok, fk.no, fk.br, by omega, upd_same, by rw [List.length_append] at hpl; simp at hpl; omega, sqT_same sB ht, mono_plain _ _ _ _ sB hpp, mono_lst (mem_map_mono mono_row) _ _ _ sB hlv, sm', fun B2 H2 g2 => ⟨_, rfl, hq _ trivial⟩⟩
      · have sm0 : Same (fun _ => none) H2 := fun _ _ z => by cases z
        refine ⟨_, rfl, sm0, fun sv B3 H3 g3 hsv => ⟨line_le (show 3 ≤ 1000000 by decide), fun ow how => ?_⟩⟩
        have l4 := Gr.lay (M := M0) (o := .tup [.str "x", .str "y", .str "z"]) g3.sub how
        dsimp only [tNil]
        refine mk_prober (mono_stack _ _ _ _ l4.base hsv) (.inl (.inl upd_same)) l4.sub (fun p B5 H5 g5 hp5 => ?_)
        obtain ⟨dx, o1, o2, o3, o4, hI, _⟩ := id hp5
        refine ⟨_, rfl, p, dx, _, rfl, hI, rfl, B5, p, rfl, hp5, g5.sub, fun v6 B6 H6 g6 hv6 => ?_⟩
        obtain ⟨q, ys, rfl, hq, hl⟩ := hv6
        refine ⟨q, ys, rfl, .inl (SqL.of (g6.sub _ _ hq)), rfl, _, rfl, ?_⟩
        rw [hl]
        refine iteT ⟨_, rfl, p, dx, _, rfl, g6.same _ _ hI, rfl, B6, p, rfl, hp5.go0 g6, g6.sub, fun v7 B7 H7 g7 hv7 => ?_⟩
        cases hv7
        exact ⟨rfl, k H7⟩
end
end Lg
/-! D35 -/
set_option maxHeartbeats 1000000
namespace Lg
open PySem L2
section
variable {P : Program} {w : World} {K : PySem.W.Frag} {mg : Str → Option Value} {base : Heap}
theorem pr_strs (B : Hp) : ∀ xs : List Str, PairR (xs.map fun x => RV (.str x)) (xs.map V.str) B
  | [] => trivial
  | _ :: xs => ⟨rfl, pr_strs B xs⟩
theorem of_strs {B : Hp} : ∀ {xs : List Str} {ys : List V}, PairR (xs.map fun x => RV (.str x)) ys B → ys = xs.map V.str
  | [], [], _ => rfl
  | _ :: _, _ :: _, h => by
    obtain ⟨rfl, h2⟩ := h
    rw [of_strs h2]
    rfl
theorem cov_eight {c ch : Ans} (hc : c ∈ allAns hidN) (hch : ch ∈ allAns ownN) : Cov (c ++ ch) eight := by
  intro x hx
  have hk : (c ++ ch).map (·.1) = hidN ++ ownN := by rw [List.map_append, (allAns_full hc).1, (allAns_full hch).1]
  have hx1 : x.1 ∈ hidN ++ ownN := by
    have : ∀ x ∈ rulesOf eight, x.1 ∈ hidN ++ ownN := by decide +kernel
    exact this x hx
  rw [← hk] at hx1
  obtain ⟨r, h1, h2⟩ := lookup_mem hx1
  refine ⟨r, h1, ?_⟩
  rcases List.mem_append.mp h2 with h | h
  · exact (allAns_full hc).2 _ h
  · exact (allAns_full hch).2 _ h
theorem keys_eight {c ch : Ans} (hc : c ∈ allAns hidN) (hch : ch ∈ allAns ownN) : ((c ++ ch).map (·.1)).Nodup := by
  rw [List.map_append, (allAns_full hc).1, (allAns_full hch).1]
  decide
theorem ok_Prober_init (T : Txt K mg) : FnOk P w K mg base CX0 8 (a_Prober_init K) (fdOf K (a_Prober_init K)) ["self", "stack", "own"] (sp_Prober_init K) := by
  refine (f_Prober_init T).ok sc_Prober_init (fun vs H Q E h => ?_) (fun cdv A outer s0 H vs Q E hr h => ?_)
  · obtain ⟨B, p, dx, ow, sv, rfl, _⟩ := h
    rfl
  · obtain ⟨B, p, dx, ow, sv, rfl, hI, hb, hst, how, sm, k⟩ := h
    refine ⟨_, (pss_cons (ps_setLc (i := 3) (own := [("name", 4)]) (by rfl) sc_Prober_init.nd rfl rfl (sw_true rfl rfl rfl (by decide +kernel)) (pi_tup (pe_prop (pv 1) (cl_Stack T) (p_Stack_modules T) (ok_Stack_modules T) (hr.mono (by decide)) (b_Stack_modules T) .nil pass0 (by rfl))) (blkOk_by (own := [("name", 4)]) (N := N_Prober_init) (sc := defScope s_Prober_init) (by decide +kernel)) (fun _ _ _ _ _ => (pg_name (i := 4) sc_Prober_init.nd rfl (Or.inl rfl))) (fun _ _ _ _ _ => (pts_one (pt_cmpR (opB (r := fun K => rIn K true) K op_notIn_seq) (pv 4) (pv 2) (by rfl)))) (fun _ _ _ _ _ => (pv 4))) (pss_cons (ps_set (i := 5) sc_Prober_init.nd rfl (Or.inl rfl) (pe_and (pe_cmpR (op_eqD hr.units) (pe_callTy call_list_of (by rfl) (n_list T) (by decide +kernel) (pa_cons (pv 2) pa_nil)) (pe_callB (cr_sortSet rfl) (by rfl) (n_sorted T) (by decide +kernel) (pa_cons (pe_callTy (cr_setS rfl) (by rfl) (n_set T) (by decide +kernel) (pa_cons (pv 2) pa_nil)) pa_nil)) (nomark _)) (pe_one (pe_callB (cr_all rfl) (by rfl) (n_all T) (by decide +kernel) (pa_cons (pe_lc (own := [("name", 4)]) (by rfl) sc_Prober_init.nd (pi_tup (pv 2)) (blkOk_by (own := [("name", 4)]) (N := N_Prober_init) (sc := defScope s_Prober_init) (by decide +kernel)) (fun _ _ _ _ _ => (pg_name (i := 4) sc_Prober_init.nd rfl (Or.inl rfl))) (fun _ _ _ _ _ => pts_nil) (fun _ _ _ _ _ => (pe_cmpR (opB (r := fun K => rIn K false) K op_in_seq) (pv 4) (pe_prop (pv 1) (cl_Stack T) (p_Stack_modules T) (ok_Stack_modules T) (hr.mono (by decide)) (b_Stack_modules T) .nil pass0 (by rfl)) (by rfl)))) pa_nil))))) (pss_cons (ps_if (PW.pt (pw_or (pt_not (pt_val (pv 5))) (pw_or1 (pt_cmpR op_gt (pe_callB (call_max2 rfl) (by rfl) (n_max T) (by decide +kernel) (pa_cons (pe_callB call_len_seq (by rfl) (n_len T) (by decide +kernel) (pa_cons (pv 2) pa_nil)) (pa_cons (pe_callB call_len_seq (by rfl) (n_len T) (by decide +kernel) (pa_cons (pv 3) pa_nil)) pa_nil))) (pe_gi (by rfl) (g_MOST_OWN T)) (nomark _))))) (pss_one ps_never) pss_nil) (pss_cons (ps_fld (pv 0) (pv 2) rfl) (pss_cons (ps_fld (pv 0) (pe_call (ok_all_answers T) (hr.mono (by decide)) (by rfl) (g_all_answers T) (f_all_answers T).kp (b_all_answers T) .nil pass0 (pa_cons (pv 2) pa_nil)) rfl) (pss_cons (ps_fld (pv 0) (pe_lst pa_nil) rfl) (pss_cons (ps_for PassesOwn.never rfl (pi_list (pe_call (ok_all_answers T) (hr.mono (by decide)) (by rfl) (g_all_answers T) (f_all_answers T).kp (b_all_answers T) .nil pass0 (pa_cons (pv 3) pa_nil))) (pg_name (i := 6) sc_Prober_init.nd rfl (Or.inr rfl)) (pss_cons (ps_set (i := 7) sc_Prober_init.nd rfl (Or.inl rfl) (pe_callTy call_tuple_of (by rfl) (n_tuple T) (by decide +kernel) (pa_cons (pe_lc (own := [("choice", 8)]) (by rfl) sc_Prober_init.nd (pi_list (pe_fld (pv 0) rfl)) (blkOk_by (own := [("choice", 8)]) (N := N_Prober_init) (sc := defScope s_Prober_init) (by decide +kernel)) (fun _ _ _ _ _ => (pg_name (i := 8) sc_Prober_init.nd rfl (Or.inl rfl))) (fun _ _ _ _ _ => pts_nil) (fun _ _ _ _ _ => (pe_meth0 (pe_make (mk_Run T) (ok_Run_init T) (hr.mono (by decide)) (by rfl) (g_Run T) (b_Run_init T) .nil pass0 (pa_cons (pv 1) (pa_cons (pe_op op_orD (pv 6) (pv 8)) pa_nil))) (cl_Run T) (m_Run_outcome T) (ok_Run_outcome T) (hr.mono (by decide)) (b_Run_outcome T) .nil pass0))) pa_nil))) (pss_one (ps_expr (pe_bm PySem.F.plainAttrs_list PySem.F.slot_list_append PySem.F.type_list_append mt_append (pe_fld (pv 0) rfl) (pa_cons (pe_tup (pa_cons (pv 6) (pa_cons (pv 7) pa_nil))) pa_nil)))))) (pss_one (ps_fld (pv 0) (pe_lst pa_nil) rfl))))))))), ?_⟩
    have hso : sortS ownN = ownN := by decide +kernel
    obtain ⟨qa, qdx, qp, qst, qn, qxs, qws, rfl, hqI, _⟩ := id hst
    refine ⟨_, rfl, qa, qdx, _, rfl, sm _ _ hqI, B, .ref qa, eight, rfl, hst, sm, fun mv B1 H1 g1 hm => ?_⟩
    obtain ⟨mp, rfl, hmp⟩ := hm
    refine ⟨mp, rfl, ⟨_, sqT_same g1.sub hmp⟩, fun D hDn => ?_⟩
    refine lc_dat (walk_tup (K := K) (a := mp) (xs := (modsOf eight).map V.str)) (M := M0) (B1 := B1) (modsOf eight) (fun x => !inV (.str x) (ownN.map V.str)) (fun x => RV (.str x)) (fun x => RV (.str x)) (fun _ => mono_v _) (fun _ => mono_v _) (pr_strs _ _) rfl g1.sub hDn mok0 (by rw [mods_eight]; decide) (fun B2 H2 g => sqT_B g hmp) (fun r x B2 H2 hr2 hx g Ky Kn ky kn => ?_) (fun zs B2 H2 g hz hP2 => ?_)
    · cases hx
      refine ⟨rfl, _, rfl, _, rfl, ow, _, rfl, .inr (sqT_same g.sub (sqT_same (g1.base.trans g.base) how)), rfl, by decide, _, rfl, ?_⟩
      show (if (!inV (L2.V.str r) (ownN.map L2.V.str)) = true then _ else _)
      cases c : (!inV (L2.V.str r) (ownN.map L2.V.str)) with
      | true => exact iteT ⟨_, rfl, ky c _ _ _ (Gr.refl g.sub) rfl⟩
      | false => exact iteF (kn c _ _ (Gr.refl g.sub))
    have ezs : zs = hidN.map V.str := by
      rw [of_strs hP2, show (modsOf eight).filter (fun x => !inV (.str x) (ownN.map V.str)) = hidN from by rw [mods_eight]; decide +kernel]
    subst ezs
    have gA := g1.then0 g
    have how2 := sqT_same gA.base how
    -- is_right
    refine ⟨_, rfl, ow, _, rfl, .inr (sqT_same gA.sub how2), fun l1 hl1 => ?_⟩
    have L1 := Gr.lay (M := M0) (o := .lst (ownN.map V.str)) gA.sub hl1
    refine ⟨_, rfl, ow, ownN, rfl, .inr (sqT_same L1.sub (sqT_same L1.base how2)), by decide, fun p1 hp1 => ⟨p1, ownN, rfl, upd_same, by decide, fun p2 hp2 => ?_⟩⟩
    have L2' := Gr.lay (M := M0) (o := SetSO w p1 ownN) L1.sub hp1
    have L3 := Gr.lay (M := M0) (o := .lst ((sortS ownN).map V.str)) L2'.sub hp2
    rw [hso] at L3
    have gB := ((gA.then0 L1).then0 L2').then0 L3
    refine ⟨.list [.str "x", .str "y", .str "z"], .list [.str "x", .str "y", .str "z"], .lst (SqL.of ((L2'.same.trans L3.same) _ _ upd_same)) (.cons (.str _) (.cons (.str _) (.cons (.str _) .nil))), .lst (SqL.of (by rw [hso]; exact upd_same)) (.cons (.str _) (.cons (.str _) (.cons (.str _) .nil))), by decide +kernel, by decide +kernel, ?_⟩
    rw [show PyData.eqv (.list [.str "x", .str "y", .str "z"]) (.list [.str "x", .str "y", .str "z"]) = true from by decide +kernel]
    refine ⟨_, rfl, iteT ?_⟩
    rw [hso]
    have howB := sqT_same gB.base how
    refine ⟨_, rfl, ow, rfl, ⟨_, sqT_same gB.sub howB⟩, fun D2 hD2 => ?_⟩
    refine lc_dat (walk_tup (K := K) (a := ow) (xs := ownN.map V.str)) (M := M0) (B1 := _) ownN (fun _ => true) (fun x => RV (.str x)) (fun _ => RV (.bl true)) (fun _ => mono_v _) (fun _ => mono_v _) (pr_strs _ _) rfl gB.sub hD2 mok0 (by decide) (fun B3 H3 g3 => sqT_B g3 howB) (fun r x B3 H3 hr2 hx g3 Ky Kn ky kn => ?_) (fun zs B3 H3 g3 hz3 hP3 => ?_)
    · cases hx
      have gC := gB.then0 g3
      refine ⟨rfl, _, rfl, _, rfl, qa, qdx, _, rfl, gC.sub _ _ (gC.base _ _ hqI), B3, .ref qa, eight, rfl, mono_stack _ _ _ _ gC.base hst, g3.sub, fun mv B4 H4 g4 hm4 => ?_⟩
      obtain ⟨mp4, rfl, hmp4⟩ := hm4
      refine ⟨mp4, _, rfl, .inr (sqT_same g4.sub hmp4), rfl, by rw [mods_eight]; decide, ?_⟩
      have hin : inV (L2.V.str r) ((modsOf eight).map V.str) = true := by
        have : ∀ x ∈ ownN, inV (L2.V.str x) ((["a", "b", "c", "x", "y", "z"] : List Str).map V.str) = true := by decide +kernel
        rw [mods_eight]
        exact this r hr2
      rw [hin]
      exact ky rfl _ _ _ g4 rfl
    have ezs : zs = [V.bl true, V.bl true, V.bl true] := by
      rw [filter_all] at hP3
      match zs, hP3 with
      | [_, _, _], h => obtain ⟨rfl, rfl, rfl, _⟩ := h; rfl
    subst ezs
    have gC := gB.then0 g3
    refine ⟨D2, [true, true, true], rfl, SqL.of (g3.sub _ _ hz3), ?_⟩
    have howC := sqT_same gC.base how
    have hDC : B3 D = some (.lst (hidN.map V.str)) := (((L1.base.trans L2'.base).trans L3.base).trans g3.base) _ _ hz
    -- the test
    dsimp only [gName, tSeq]
    refine ifS_f (fun Q hq => ⟨_, rfl, _, rfl, iteF ⟨_, rfl, ow, _, rfl, .inr (sqT_same g3.sub howC), _, rfl, D, _, rfl, .inl (SqL.of (g3.sub _ _ hDC)), _, _, rfl, _, _, rfl, rfl, _, rfl, hq⟩⟩) ?_
    have hI3 := gC.same _ _ hI
    refine ⟨_, rfl, _, rfl, p, _, dx, [], rfl, hI3, cl_Prober T, na_Prober_own_names T, (show 0 < 1000 by decide), ?_⟩
    have bp3 := gC.new _ _ hb hI
    have G1 : Gr (fun z => z = p) B H B3 _ := Gr.set' (M := fun z => z = p) (o := .ins (c_Prober K) dx [("own_names", .ref ow)]) gC.up bp3 rfl
    refine ⟨_, rfl, B3, ow, ownN, rfl, .inr howC, by decide, by decide, G1.sub, fun cv B4 H4 g4 hcv => ?_⟩
    have hI4 := g4.same _ _ (upd_same (H := H3) (a := p) (o := .ins (c_Prober K) dx [("own_names", .ref ow)]))
    have bp4 := g4.new _ _ bp3 upd_same
    refine ⟨_, rfl, p, _, dx, _, rfl, hI4, cl_Prober T, na_Prober_tried_choices T, (show 1 < 1000 by decide), ?_⟩
    have G2 : Gr (fun z => z = p) B H B4 _ := Gr.set' (M := fun z => z = p) (o := .ins (c_Prober K) dx [("own_names", .ref ow), ("tried_choices", cv)]) (G1.trans' g4 fun z hz => hz.elim) bp4 rfl
    refine ⟨line_le (show 0 ≤ 1000000 by decide), fun l hl => ⟨_, rfl, p, _, dx, [("own_names", .ref ow), ("tried_choices", cv)], rfl, by rw [upd_ne (ne_of_none upd_same hl)]; exact upd_same, cl_Prober T, na_Prober_left T, (show 2 < 1000 by decide), ?_⟩⟩
    have L5 := Gr.hid (M := M0) (o := .lst []) G2.sub hl
    have npl : p ≠ l := ne_of_none upd_same hl
    have bl4 : B4 l = none := G2.sub.free hl
    have G3 : Gr (fun z => z = p) B H B4 _ := Gr.set' (M := fun z => z = p) (o := .ins (c_Prober K) dx [("own_names", .ref ow), ("tried_choices", cv), ("left", .ref l)]) (G2.trans' L5 fun z hz => hz.elim) bp4 rfl
    have howD := g4.base
    have hD4 := g4.base _ _ hDC
    refine ⟨_, rfl, B4, D, hidN, rfl, .inl hD4, by decide, by decide, G3.sub, fun av B5 H5 g5 hav => ?_⟩
    obtain ⟨al, as, rfl, hal, haP⟩ := hav
    have G4 : Gr (fun z => z = p) B H B5 H5 := G3.trans' g5 fun z hz => hz.elim
    have hI5 := g5.same _ _ (upd_same (a := p) (o := .ins (c_Prober K) dx [("own_names", .ref ow), ("tried_choices", cv), ("left", .ref l)]))
    have hl5 : H5 l = some (.lst []) := g5.same _ _ (by rw [upd_ne npl.symm]; exact upd_same)
    have bp5 := g5.new _ _ bp4 upd_same
    have bl5 := g5.new _ _ bl4 (by rw [upd_ne npl.symm]; exact upd_same)
    have hcv5 := mono_lst (mem_map_mono mono_ans) _ _ _ g5.base hcv
    have hst5 := mono_stack _ _ _ _ G4.base hst
    refine ⟨al, rfl, ⟨as, SqL.of (g5.sub _ _ hal)⟩, ?_⟩
    refine for_it (walk_list (K := K) (a := al) (xs := as)) (fun i σ H' => ∃ B' ys x6 x7, Gr (fun z => z = p ∨ z = l) B5 H5 B' H' ∧ H' p = some (.ins (c_Prober K) dx [("own_names", .ref ow), ("tried_choices", cv), ("left", .ref l)]) ∧ H' l = some (.lst ys) ∧ PairR (((allAns hidN).take i).map (rCand K)) ys B' ∧
        σ = [some (.ref p), some (.ref qa), some (.ref ow), some (.ref D), none, some (.bl true), x6, x7, none])
      ⟨B5, [], none, none, Gr.refl g5.sub, hI5, hl5, trivial, rfl⟩ (fun i σ H' hi hv => ?_) (fun i x σ H0' H1' hi hv y => ?_) (fun σ H' hv => ?_)
    · obtain ⟨B', ys, x6, x7, g6, _⟩ := hv
      exact SqL.of (g6.sub _ _ (g6.base _ _ hal))
    · obtain ⟨B', ys, x6, x7, g6, hI6, hl6, hP6, rfl⟩ := hv
      obtain ⟨rfl, hx⟩ := y
      obtain ⟨R, hR, hxr⟩ := haP.at_ hx
      rw [List.getElem?_map] at hR
      obtain ⟨c, hc, rfl⟩ : ∃ c, (allAns hidN)[i]? = some c ∧ R = rAns c := by
        cases q : (allAns hidN)[i]? with
        | none => rw [q] at hR; cases hR
        | some c => rw [q] at hR; exact ⟨c, rfl, (Option.some.inj hR).symm⟩
      have hcm := List.mem_of_getElem? hc
      obtain ⟨cd, rfl, hcd⟩ := hxr
      have bp6 := g6.new _ _ bp5 hI5
      have bl6 := g6.new _ _ bl5 hl5
      obtain ⟨cl, cs, rfl, hcl, hcP⟩ := mono_lst (mem_map_mono mono_ans) _ _ _ g6.base hcv5
      have hst6 := mono_stack _ _ _ _ g6.base hst5
      have hcd6 := g6.base _ _ hcd
      refine ⟨_, rfl, p, _, dx, _, _, rfl, hI6, cl_Prober T, na_Prober_tried_choices T, rfl, cl, rfl, ⟨cs, SqL.of (g6.sub _ _ hcl)⟩, fun D7 hD7 => ?_⟩
      have hlen : (allAns ownN).length ≤ 1000000 := by decide +kernel
      refine lc_dat (walk_list (K := K) (a := cl) (xs := cs)) (M := M0) (B1 := B') (allAns ownN) (fun _ => true) rAns (fun ch => RV (.str (leads eight (c ++ ch)))) mono_ans (fun _ => mono_v _) hcP rfl g6.sub hD7 mok0 hlen (fun B8 H8 g8 => sqL_B g8 hcl) (fun ch v B8 H8 hch hv g8 Ky Kn ky kn => ?_) (fun zs B8 H8 g8 hz8 hP8 => ?_)
      · obtain ⟨chd, rfl, hchd⟩ := hv
        have hcd8 := g8.base _ _ hcd6
        have hkl : (ansV c).length + (ansV ch).length ≤ 1000000 := by
          have e1 := congrArg List.length (allAns_full hcm).1
          have e2 := congrArg List.length (allAns_full hch).1
          unfold ansV
          rw [List.length_map] at e1 e2 ⊢
          rw [List.length_map, e1, e2]
          decide
        refine ⟨rfl, _, rfl, _, rfl, _, rfl, cd, chd, ansV c, ansV ch, rfl, rfl, g8.sub _ _ hcd8, g8.sub _ _ hchd, hkl, fun q hq => ?_⟩
        rw [merge_ans _ _ (keys_eight hcm hch)]
        have l9 := Gr.lay (M := M0) (o := .dK (ansV (c ++ ch))) g8.sub hq
        dsimp only [tNil]
        refine mk_run (mono_stack _ _ _ _ (g8.base.trans l9.base) hst6) ok_eight upd_same (cov_eight hcm hch) l9.sub (fun a B9 H9 g9 hr => ?_)
        obtain ⟨ra, rdx, rd, rl, rp, e, hrI, hrm⟩ := id hr
        cases e
        exact ⟨a, rdx, _, rfl, g9.sub _ _ hrI, rfl, .ref a, _, rfl, ⟨a, rdx, rd, rl, rp, rfl, g9.sub _ _ hrI, mono_mark _ _ _ _ g9.sub hrm⟩, ky rfl _ _ _ (l9.then0 g9) rfl⟩
      · rw [filter_all] at hP8
        have ez : zs = (rowOf eight c).map V.str := by
          rw [PairR.of_consts (fun ch => V.str (leads eight (c ++ ch))) hP8]
          unfold rowOf
          rw [List.map_map]
          rfl
        subst ez
        have g68 : Gr (fun z => z = p ∨ z = l) B5 H5 B8 H8 := g6.trans' g8 fun z hz => hz.elim
        have hI8 := g8.same _ _ hI6
        have hl8 := g8.same _ _ hl6
        refine ⟨D7, _, rfl, .inl ⟨SqL.of (g8.sub _ _ hz8), fun t ht => ?_⟩⟩
        have l9 := Gr.lay (M := M0) (o := .tup ((rowOf eight c).map V.str)) g8.sub ht
        refine ⟨_, rfl, p, _, dx, _, _, rfl, l9.same _ _ hI8, cl_Prober T, na_Prober_left T, rfl, .inl ⟨rfl, ys, SqL.of (l9.same _ _ hl8)⟩, _, rfl, _, rfl, line_le (show 2 ≤ 1000000 by decide), fun u hu => ?_⟩
        have l10 := Gr.lay (M := M0) (o := .tup [.ref cd, .ref t]) l9.sub hu
        have gl := l9.then0 l10
        have hyl : ys.length ≤ 1000000 := by
          have := hP6.length
          rw [List.length_map, List.length_take] at this
          have h3 : (allAns hidN).length ≤ 1000000 := by decide +kernel
          omega
        refine ⟨l, ys, .ref u, rfl, rfl, gl.same _ _ hl8, line_lt hyl, ?_⟩
        have bl8 := gl.new _ _ (g8.new _ _ bl6 hl6) hl8
        have gT : Gr (fun z => z = p ∨ z = l) B5 H5 _ _ := Gr.set' (M := fun z => z = p ∨ z = l) (o := .lst (ys ++ [.ref u])) (g68.trans' gl fun z hz => hz.elim) bl8 (.inr rfl)
        refine ⟨_, _, _, _, gT, by rw [upd_ne npl]; exact gl.same _ _ hI8, upd_same, ?_, rfl⟩
        have ht1 : (allAns hidN).take (i + 1) = (allAns hidN).take i ++ [c] := by rw [List.take_succ, hc]; rfl
        rw [ht1, List.map_append]
        exact PairR.snoc (hP6.mono (g8.base.trans gl.base) (mem_map_mono mono_cand)) ⟨u, cd, t, rfl, .inl (.inl upd_same), gl.base _ _ (g8.base _ _ hcd6), l10.base _ _ upd_same⟩
    · obtain ⟨B', ys, x6, x7, g6, hI6, hl6, hP6, rfl⟩ := hv
      have hasl : as.length = (allAns hidN).length := by have := haP.length; rw [List.length_map] at this; exact this.symm
      rw [hasl, List.take_length] at hP6
      have bp6 := g6.new _ _ bp5 hI5
      have bl6 := g6.new _ _ bl5 hl5
      have hHl : H l = none := G2.there' hl
      have gF : Gr (fun z => z = p) B H B' H' := G4.trans' g6 fun z hz => by
        rcases hz with hz | hz
        · exact .inl hz
        · exact .inr (by rw [hz]; exact hHl)
      have gL := gF.tell hHl hl6 bl6
      refine ⟨line_le (show 0 ≤ 1000000 by decide), fun f hf => ⟨_, rfl, p, _, dx, [("own_names", .ref ow), ("tried_choices", cv), ("left", .ref l)], rfl, by rw [upd_ne (ne_of_none hI6 hf)]; exact hI6, cl_Prober T, na_Prober_facts T, (show 3 < 1000 by decide), ?_⟩⟩
      have l7 := Gr.hid (M := M0) (o := .lst []) gL.sub hf
      have bpL : (upd B' l (.lst ys)) p = none := by rw [upd_ne npl]; exact bp6
      have gE := Gr.set' (M := fun z => z = p) (o := insPr K dx (.ref ow) cv (.ref l) (.ref f)) (gL.trans' l7 fun z hz => hz.elim) bpL rfl
      refine k _ _ gE ⟨dx, .ref ow, cv, .ref l, .ref f, upd_same, l, ys, rfl, upd_same, ?_⟩
      exact hP6.mono (fun z u hz => by rw [upd_ne (ne_of_none hz bl6)]; exact hz) (mem_map_mono mono_cand)
end
end Lg
/-! Lg23 -/
set_option maxHeartbeats 1000000
namespace Lg
open PySem PySem.Spec PyProof.Rows L2
section
variable {X : Cx}
theorem kt_some {H : Hp} {kvs : List (List L2.Key × V)} {xs : List (List L2.Key × Addr × Value)} {k : List L2.Key} {p : Addr × Value} (rel : KT H kvs xs) (hp : atKey xs k = some p) : ∃ v, valV kvs k = some v ∧ RelV v p.2 := by
  have r := rel.val k
  rw [hp] at r
  cases ev : valV kvs k with
  | none => rw [ev] at r; exact (show False from r).elim
  | some v0 => rw [ev] at r; exact ⟨v0, rfl, r⟩
theorem kt_none {H : Hp} {kvs : List (List L2.Key × V)} {xs : List (List L2.Key × Addr × Value)} {k : List L2.Key} (rel : KT H kvs xs) (hn : atKey xs k = none) : valV kvs k = none := by
  have r := rel.val k
  rw [hn] at r
  cases ev : valV kvs k with
  | none => rfl
  | some v0 => rw [ev] at r; exact (show False from r).elim
def rSetdT : V → List V → Hp → VK → Prop := fun x vs H Q => ∃ (a : Addr) (kvs : List (List L2.Key × V)) (k : List L2.Key) (b : Addr) (d : V), x = .ref a ∧ vs = [.ref b, d] ∧ H a = some (.dT kvs) ∧ H b = some (.tup (k.map kV)) ∧ kvs.length < sizeLine ∧
  (∀ u, valV kvs k = some u → Q u H) ∧ (valV kvs k = none → Q d (upd H a (.dT (putK kvs k d))))
theorem mt_setdT (hu : X.A.units + 1 < cLine) : MtM X "dict.setdefault" rSetdT := by
  intro pins s σ H x xs v us Q I rx rxs h
  obtain ⟨a, kvs, k, b, d, rfl, rfl, ha, hb, hl, q1, q2⟩ := h
  cases rx
  obtain ⟨u1, u2, rfl, r1, r2⟩ := vals2 rxs
  cases r1
  obtain ⟨z, hd, xs', rel, dd⟩ := dt_of I.hok ha
  have hz : xs'.length ≤ sizeLine := by rw [← Paired.length rel]; exact z
  refine call_setdefault_heap (hsz := hz) (tupleKind_room_in1 hu) (key_of I.hok hb) hd dd (fun p hp => ?_) (fun hn h' dd' hs => ?_)
  · obtain ⟨v0, ev, rv⟩ := kt_some rel hp
    exact ⟨v0, H, I.tok _, rv, q1 v0 ev⟩
  · have hl2 : (putK kvs k d).length ≤ sizeLine := by have := length_putK kvs k d; omega
    obtain ⟨q, es, ep, hq, h2, h3, h4, _, h5⟩ := dd'
    refine ⟨d, upd H a (.dT (putK kvs k d)), d_write (ob := .dT (putK kvs k d)) I (by rw [ha]; exact True.intro) hs ⟨q, hq⟩ ⟨hl2, hd, _, (rel.put k hb r2).keeps fun c ys ec => ?_, q, es, ep, hq, h2, h3, h4, h5⟩, r2, q2 (kt_none rel hn)⟩
    rw [upd_ne (ne_of ec ha (fun z => nomatch z))]
    exact ec
/-- the view d.values() at p -/
def valsO (p d : Addr) : HO := .ext fun h => h.IsValuesView p d
theorem valsO_ok {P : Program} {w : World} {H : Hp} {h : Heap} {p d : Addr} (e : h.get? p = some { cls := .type "dict_values", data := .fields #[.ref d] }) : ObjOk P w H h p (valsO p d) :=
  ⟨⟨_, e, rfl, rfl⟩, ⟨_, e⟩, fun h1 h2 x k => let ⟨o, ho, r⟩ := x; ⟨o, k o ho, r⟩⟩
def rValsT : V → List V → Hp → VK → Prop := fun x xs H Q => ∃ (a : Addr) (kvs : List (List L2.Key × V)), x = .ref a ∧ xs = [] ∧ H a = some (.dT kvs) ∧ ∀ p, H p = none → Q (.ref p) (upd H p (valsO p a))
theorem mt_valsT : MtR X "dict.values" rValsT := by
  intro pins s σ H x xs v us Q I rx rxs h
  obtain ⟨a, kvs, rfl, rfl, ha, q⟩ := h
  cases rx
  cases rxs
  obtain ⟨z, hd, xs', rel, o, es, ep, ho, hx, hdat, _⟩ := dt_of I.hok ha
  have hf : H s.heap.objs.size = none := I.hok.fresh (Nat.le_refl _)
  exact call_meetsIn PySem.F.slot_dict_values ⟨o, ho, hx.1⟩ PySem.F.entry_dict_values (PySem.F.args_dict_values_1 _) (meets_dict_values_raw a hd) ⟨⟨es, ep, o, ho, hx, hdat⟩,
    (⟨.ref s.heap.objs.size, upd H s.heap.objs.size (valsO s.heap.objs.size a), I.laid (t' := s.toks) (fun b u e => Heap.get?_push_of_some _ e) (Nat.le_refl _) (valsO_ok (Heap.get?_push_size _ rfl)), rfl, q _ hf⟩ : EP X pins σ Q _ _)⟩
theorem vals_pair {H : Hp} : ∀ {kvs : List (List L2.Key × V)} {xs : List (List L2.Key × Addr × Value)}, KT H kvs xs → Vals (kvs.map (·.2)) (xs.map fun x => x.2.2)
  | _, _, .nil => .nil
  | _, _, .cons h t => .cons h.2.2 (vals_pair t)
/-- list(d.values()) -/
theorem call_list_vals (hc : X.calm = true) : CallR X (.type "list") (fun xs H Q => ∃ p d kvs, xs = [V.ref p] ∧ H p = some (valsO p d) ∧ H d = some (.dT kvs) ∧ ∀ l, H l = none → Q (.ref l) (upd H l (.lst (kvs.map (·.2))))) := by
  intro pins s σ H xs us Q I r h
  obtain ⟨p, d, kvs, rfl, hp, hd, q⟩ := h
  obtain ⟨u, rfl, rx⟩ := r.one
  cases rx
  obtain ⟨z, hs, ks, pr, o, es, ep, ho, hx, hdt, he, hn⟩ := (show ObjOk X.prog X.w H s.heap d (.dT kvs) from I.hok d _ hd)
  have hv : s.heap.IsValuesView p d := (I.hok p _ hp).1
  have l1 : es.size = ks.length := size_of_entries he
  have l2 : kvs.length = ks.length := Paired.length pr
  refine PySem.W.kdl_call KdlSrc.rawValues (I.ok.hd hc) ⟨hv, ⟨o, ho, hx, hdt⟩⟩ (by omega) fun h' tk acc' c' kp e it => ?_
  have ea : acc'.toList = ks.map fun x => x.2.2 := by
    have hl : acc'.toList.length = ks.length := by rw [Array.length_toList, it.1]; exact l1
    apply List.ext_getElem?
    intro j
    rw [List.getElem?_map]
    cases hj : acc'.toList[j]? with
    | none =>
      have h1 := List.getElem?_eq_none_iff.mp hj
      rw [List.getElem?_eq_none (by omega)]
      rfl
    | some v =>
      obtain ⟨hi, hv⟩ := it.2 j v (by rw [← Array.getElem?_toList]; exact hj)
      have qe := entry_at he j
      rw [Array.getElem?_eq_getElem hi] at qe
      cases hb : ks[j]? with
      | none =>
        rw [hb] at qe
        cases qe
      | some b =>
        rw [hb] at qe
        have e2 : es[j] = entryOfKey (tupleKind (mixKind X.prog X.w)) b := Option.some.inj qe
        rw [hv, e2]
        rfl
  have rv : Vals (kvs.map (·.2)) acc'.toList := by rw [ea]; exact vals_pair pr
  have hz : (kvs.map (·.2)).length ≤ sizeLine := by rw [List.length_map]; omega
  exact ⟨.ref s.heap.objs.size, _, I.laid (t' := tk) (o := .lst (kvs.map (·.2))) kp (Nat.le_refl _) ⟨hz, acc'.toList, c', rv, by rw [Array.toArray_toList]; exact e⟩, rfl, q _ (I.hok.fresh (Nat.le_refl _))⟩
end
end Lg
/-! D36 -/
set_option maxHeartbeats 1000000
namespace Lg
open PySem L2
section
variable {P : Program} {w : World} {K : PySem.W.Frag} {mg : Str → Option Value} {base : Heap}
theorem valV_mem {κ : Type} [DecidableEq κ] {kvs : List (κ × V)} {k : κ} {u : V} (h : valV kvs k = some u) : (k, u) ∈ kvs := by
  unfold valV at h
  obtain ⟨q, hq, rfl⟩ := Option.map_eq_some_iff.mp h
  have e : q.1 = k := of_decide_eq_true (List.find?_some (p := fun kv : κ × V => decide (kv.1 = k)) hq)
  subst e
  exact List.mem_of_find?_eq_some hq
theorem valV_not {κ : Type} [DecidableEq κ] {kvs : List (κ × V)} {k : κ} (h : valV kvs k = none) : k ∉ kvs.map (·.1) := by
  intro m
  obtain ⟨q, hq, rfl⟩ := List.mem_map.mp m
  unfold valV at h
  rw [Option.map_eq_none_iff, List.find?_eq_none] at h
  exact h q hq (decide_eq_true rfl)
theorem inr_inj {a b : Row} (h : a.map (Sum.inr : Str → L2.Key) = b.map Sum.inr) : a = b := by
  refine List.map_inj_right (fun x y e => ?_) |>.mp h
  injection e
theorem ok_Prober_kinds (T : Txt K mg) : FnOk P w K mg base CX0 3 (a_Prober_kinds K) (fdOf K (a_Prober_kinds K)) ["self"] (sp_Prober_kinds K) := by
  refine (f_Prober_kinds T).ok sc_Prober_kinds (fun vs H Q E h => ?_) (fun cdv A outer s0 H vs Q E hr h => ?_)
  · obtain ⟨B, p, rfl, _⟩ := h
    rfl
  · obtain ⟨B, p, rfl, hp, sm, k⟩ := h
    refine ⟨_, (pss_cons (ps_set (i := 1) sc_Prober_kinds.nd rfl (Or.inl rfl) pe_dnewT) (pss_cons (ps_for PassesOwn.never rfl (pi_list (pe_fld (pv 0) rfl)) (pg_tup rfl (pgs_cons (pg_name (i := 2) sc_Prober_kinds.nd rfl (Or.inl rfl)) (pgs_cons (pg_name (i := 3) sc_Prober_kinds.nd rfl (Or.inl rfl)) pgs_nil))) (pss_one (ps_expr (pe_bm PySem.F.plainAttrs_list PySem.F.slot_list_append PySem.F.type_list_append mt_append (pe_bm PySem.F.plainAttrs_dict PySem.F.slot_dict_setdefault PySem.F.type_dict_setdefault (mt_setdT (hu_of hr)) (pv 1) (pa_cons (pv 3) (pa_cons (pe_lst pa_nil) pa_nil))) (pa_cons (pe_callTy call_dictD (by rfl) (n_dict T) (by decide +kernel) (pa_cons (pv 2) pa_nil)) pa_nil))))) (pss_one (ps_ret (pe_callTy (call_list_vals rfl) (by rfl) (n_list T) (by decide +kernel) (pa_cons (pe_bm0 PySem.F.plainAttrs_dict PySem.F.slot_dict_values PySem.F.type_dict_values mt_valsT (pv 1)) pa_nil)))))), ?_⟩
    obtain ⟨dx, ow, ch, lf, fc, hI, ll, ls, rfl, hll, hlP⟩ := hp
    have hlen : ls.length = 64 := by
      have := hlP.length
      rw [List.length_map] at this
      rw [← this]
      decide +kernel
    refine fun fd hfd => ?_
    have l1 := Gr.hid (M := M0) (o := .dT []) sm hfd
    refine ⟨_, rfl, p, _, dx, _, _, rfl, l1.same _ _ hI, cl_Prober T, na_Prober_left T, rfl, ll, rfl, ⟨ls, SqL.of (l1.sub _ _ hll)⟩, ?_⟩
    refine for_it (walk_list (K := K) (a := ll) (xs := ls)) (fun i σ H' => ∃ (B' : Hp) (kvs : List (List L2.Key × V)) (L : List Row) (x2 x3 : Option V), Gr M0 B H B' H' ∧ B' fd = none ∧ H' fd = some (.dT kvs) ∧ kvs.map (·.1) = L.map (fun r => r.map Sum.inr) ∧ L.Nodup ∧ (∀ r, r ∈ L ↔ r ∈ rows64.take i) ∧ kvs.length ≤ i ∧
        (∀ q ∈ kvs, ∃ l ys, q.2 = .ref l ∧ H l = none ∧ B' l = none ∧ H' l = some (.lst ys) ∧ ys.length ≤ i) ∧ σ = [some (.ref p), some (.ref fd), x2, x3])
      ⟨B, [], [], none, none, l1, sm.free hfd, upd_same, rfl, List.nodup_nil, fun r => by rw [List.take_zero], Nat.le_refl _, fun _ z => absurd z (by simp), rfl⟩ (fun i σ H' hi hv => ?_) (fun i x σ H0' H1' hi hv y => ?_) (fun σ H' hv => ?_)
    · obtain ⟨B', kvs, L, x2, x3, g, _⟩ := hv
      exact SqL.of (g.sub _ _ (g.base _ _ hll))
    · obtain ⟨B', kvs, L, x2, x3, g, bfd, hfd', hkL, nd, hL, hkl, hvs, rfl⟩ := hv
      obtain ⟨rfl, hx⟩ := y
      obtain ⟨R, hR, hxr⟩ := hlP.at_ hx
      rw [List.getElem?_map] at hR
      obtain ⟨c, hc, rfl⟩ : ∃ c, (allAns hidN)[i]? = some c ∧ R = rCand K c := by
        cases q : (allAns hidN)[i]? with
        | none => rw [q] at hR; cases hR
        | some c => rw [q] at hR; exact ⟨c, rfl, (Option.some.inj hR).symm⟩
      obtain ⟨t, d, q, rfl, ht, hd, hq⟩ := mono_cand c _ _ _ g.base hxr
      have hrow : rows64[i]? = some (rowOf eight c) := by unfold rows64; rw [List.getElem?_map, hc]; rfl
      have htk : rows64.take (i + 1) = rows64.take i ++ [rowOf eight c] := by rw [List.take_succ, hrow]; rfl
      refine ⟨t, _, rfl, sqT_same g.sub ht, rfl, _, _, rfl, _, _, rfl, rfl, ?_⟩
      refine ⟨_, rfl, .inr (.inr (.inl ⟨rfl, .inr ⟨kvs, hfd'⟩⟩)), _, rfl, line_le (show 0 ≤ 1000000 by decide), fun nl hnl => ?_⟩
      have l2 := Gr.hid (M := M0) (o := .lst []) g.sub hnl
      have gA := g.then0 l2
      have hHnl : H nl = none := g.there' hnl
      have hq2 := gA.sub _ _ hq
      refine ⟨fd, kvs, (rowOf eight c).map Sum.inr, q, .ref nl, rfl, rfl, l2.same _ _ hfd', by rw [List.map_map]; exact hq2, line_lt (by omega), fun u hu => ?_, fun hn => ?_⟩
      · have hm := valV_mem hu
        obtain ⟨l, ys, e, hHl, hBl, hl, hyl⟩ := hvs _ hm
        cases e
        refine ⟨.inl ⟨rfl, ys, SqL.of (l2.same _ _ hl)⟩, _, rfl, d, _, rfl, .inl (gA.sub _ _ hd), fun e he => ?_⟩
        have l3 := Gr.lay (M := M0) (o := .dK (ansV c)) gA.sub he
        have gB := gA.then0 l3
        have hl3 := l3.same _ _ (l2.same _ _ hl)
        refine ⟨l, ys, .ref e, rfl, rfl, hl3, line_lt (by omega), ?_⟩
        have bl3 : (upd B' e (.dK (ansV c))) l = none := l3.new _ _ hBl (l2.same _ _ hl)
        have gC := gB.mut (o := .lst (ys ++ [.ref e])) bl3 (.inl hHl)
        have nfl : fd ≠ l := ne_of hfd' hl (fun z => by cases z)
        refine ⟨_, kvs, L, _, _, gC, l3.new _ _ bfd (l2.same _ _ hfd'), by rw [upd_ne nfl]; exact l3.same _ _ (l2.same _ _ hfd'), hkL, nd, fun r => ?_, by omega, fun q' hq' => ?_, rfl⟩
        · rw [htk, List.mem_append, hL r]
          refine ⟨.inl, fun z => z.elim id fun z => ?_⟩
          have e1 := List.mem_map_of_mem (f := Prod.fst) hm
          rw [show kvs.map Prod.fst = kvs.map (·.1) from rfl, hkL] at e1
          obtain ⟨r', hr', er⟩ := List.mem_map.mp e1
          rw [List.mem_singleton.mp z, ← inr_inj er]
          exact (hL r').mp hr'
        · obtain ⟨l', ys', e', a1, a2, a3, a4⟩ := hvs q' hq'
          have bl' : (upd B' e (.dK (ansV c))) l' = none := l3.new _ _ a2 (l2.same _ _ a3)
          by_cases z : l' = l
          · subst z
            exact ⟨l', _, e', a1, bl', upd_same, by rw [List.length_append]; exact Nat.succ_le_succ hyl⟩
          · exact ⟨l', ys', e', a1, bl', by rw [upd_ne z]; exact l3.same _ _ (l2.same _ _ a3), by omega⟩
      · have gM := gA.mut (o := .dT (putK kvs ((rowOf eight c).map Sum.inr) (.ref nl))) bfd (.inl hfd)
        have nfn : fd ≠ nl := ne_of_none hfd' hnl
        have hnl2 : ∀ o, (upd (upd H1' nl (.lst [])) fd o) nl = some (.lst []) := fun o => by rw [upd_ne nfn.symm]; exact upd_same
        refine ⟨.inl ⟨rfl, [], SqL.of (hnl2 _)⟩, _, rfl, d, _, rfl, .inl (gM.sub _ _ hd), fun e he => ?_⟩
        have l3 := Gr.lay (M := M0) (o := .dK (ansV c)) gM.sub he
        have gB := gM.then0 l3
        refine ⟨nl, [], .ref e, rfl, rfl, l3.same _ _ (hnl2 _), line_lt (Nat.zero_le _), ?_⟩
        have bnl : B' nl = none := g.sub.free hnl
        have bl3 : (upd B' e (.dK (ansV c))) nl = none := l3.new _ _ bnl (hnl2 _)
        have gC := gB.mut (o := .lst ([] ++ [.ref e])) bl3 (.inl hHnl)
        have hkn : (rowOf eight c).map Sum.inr ∉ kvs.map (·.1) := valV_not hn
        have hput : putK kvs ((rowOf eight c).map Sum.inr) (.ref nl) = kvs ++ [((rowOf eight c).map Sum.inr, .ref nl)] := putK_new _ hn
        have hrn : rowOf eight c ∉ L := fun z => hkn (by rw [hkL]; exact List.mem_map_of_mem z)
        refine ⟨_, putK kvs ((rowOf eight c).map Sum.inr) (.ref nl), L ++ [rowOf eight c], _, _, gC, l3.new _ _ bfd upd_same, by rw [upd_ne nfn]; exact l3.same _ _ upd_same, by rw [hput, List.map_append, List.map_append, hkL]; rfl, ?_, fun r => ?_, by rw [hput, List.length_append]; exact Nat.succ_le_succ hkl, fun q' hq' => ?_, rfl⟩
        · rw [List.nodup_append]
          exact ⟨nd, by simp, fun a ha b hb e => hrn (by rw [← List.mem_singleton.mp hb, ← e]; exact ha)⟩
        · rw [htk, List.mem_append, List.mem_append, hL r]
        · rw [hput] at hq'
          rcases List.mem_append.mp hq' with hq' | hq'
          · obtain ⟨l', ys', e', a1, a2, a3, a4⟩ := hvs q' hq'
            have n1 : l' ≠ nl := ne_of_none a3 hnl
            have n2 : l' ≠ fd := ne_of a3 hfd' (fun z => by cases z)
            have a5 : (upd (upd H1' nl (.lst [])) fd (.dT (putK kvs ((rowOf eight c).map Sum.inr) (.ref nl)))) l' = some (.lst ys') := by rw [upd_ne n2, upd_ne n1]; exact a3
            exact ⟨l', ys', e', a1, l3.new _ _ a2 a5, by rw [upd_ne n1]; exact l3.same _ _ a5, by omega⟩
          · rw [List.mem_singleton.mp hq']
            exact ⟨nl, [.ref e], rfl, hHnl, bl3, upd_same, Nat.succ_le_succ (Nat.zero_le _)⟩
    · obtain ⟨B', kvs, L, x2, x3, g, bfd, hfd', hkL, nd, hL, hkl, hvs, rfl⟩ := hv
      have h64 : rows64.take ls.length = rows64 := List.take_of_length_le (by rw [hlen]; decide +kernel)
      rw [h64] at hL
      have h8 := kinds_len nd hL
      have hk8 : kvs.length = 8 := by
        have := congrArg List.length hkL
        rw [List.length_map, List.length_map] at this
        omega
      refine ⟨_, rfl, .inr (.inr (.inl ⟨rfl, .inr ⟨kvs, hfd'⟩⟩)), fd, kvs, rfl, rfl, hfd', fun v hv => ⟨v, fd, kvs, rfl, upd_same, by rw [upd_ne (ne_of_none hfd' hv)]; exact hfd', fun l hl => ?_⟩⟩
      have l5 := Gr.hid (M := M0) (o := valsO v fd) g.sub hv
      have l6 := Gr.lay (M := M0) (o := .lst (kvs.map (·.2))) l5.sub hl
      exact k _ _ _ ((g.then0 l5).then0 l6) ⟨l, _, rfl, upd_same, by rw [List.length_map]; exact hk8⟩
end
end Lg
/-! Lg24 -/
set_option maxHeartbeats 2000000
namespace Lg
open PySem PySem.Spec PyProof.Rows L2
/-- what a kind's members answer -/
structure Hk {P : Program} {w : World} {κ : Type} [DecidableEq κ] (knd : HeapKind P w κ) : Prop where
  seen : ∀ {A : Around} {E : Value → Shared → Prop} {s : Shared} {k : κ} {b : Addr} {Q : Bool → Shared → Prop}, knd.is s.heap k b → ∀ {ys : List Value}, (∀ y ∈ ys, ∃ k' c, y = Value.ref c ∧ knd.is s.heap k' c) → Q false s → wpAny (model P w) A (searchCouldBeSeen (.ref b) ys) Q E s
  hashBy : ∀ {A : Around} {E : Value → Shared → Prop} {s : Shared} {k : κ} {b : Addr} {Q : Bool → Shared → Prop}, knd.is s.heap k b → (∀ c, Q c s) → wpAny (model P w) A (hashByValue 8 (.ref b)) Q E s
  same : ∀ {h h' : Heap} {k : κ} {a b : Addr} {o : Obj} {es : Array (Int × Value)} {ep : Nat} {t : SetTable}, knd.is h k b → h.get? a = some o → o.data = .set es ep t → Heap.SameBut a h h' → knd.is h' k b
  keep : ∀ {h h' : Heap} {k : κ} {b : Addr}, knd.is h k b → (∀ c o, h.get? c = some o → h'.get? c = some o) → knd.is h' k b
section
variable {P : Program} {w : World} {κ : Type} [DecidableEq κ] {knd : HeapKind P w κ} {A : Around} {E : Value → Shared → Prop} {s : Shared}
theorem nodup_leK {κ : Type} [DecidableEq κ] : ∀ (l D : List κ), l.Nodup → (∀ x ∈ l, x ∈ D) → l.length ≤ D.length
  | [], _, _, _ => Nat.zero_le _
  | x :: l, D, nd, h => by
    obtain ⟨n1, n2⟩ := List.nodup_cons.mp nd
    have hx := h x List.mem_cons_self
    have := nodup_leK l (D.erase x) n2 fun y hy => by
      have hne : y ≠ x := fun z => n1 (z ▸ hy)
      exact (List.mem_erase_of_ne hne).mpr (h y (List.mem_cons_of_mem _ hy))
    rw [List.length_erase_of_mem hx] at this
    have hp : 0 < D.length := List.length_pos_of_mem hx
    rw [List.length_cons]
    omega
def rowsK (knd : HeapKind P w κ) (L : List (Addr × κ)) : List (Int × Value) := L.map fun p => (knd.hash p.2, Value.ref p.1)
structure SetKR (knd : HeapKind P w κ) (h : Heap) (a : Addr) (L : List (Addr × κ)) (es : Array (Int × Value)) (ep : Nat) (t : SetTable) : Prop where
  ob : ∃ o, h.get? a = some o ∧ o.ExactSet ∧ o.data = .set es ep t
  rows : es.toList = rowsK knd L
  tab : TabOk t (L.map fun p => knd.hash p.2)
  nd : (L.map (·.2)).Nodup
  tup : ∀ p ∈ L, knd.is h p.2 p.1
  led : w.params.followText "set-order" = true ∨ t.led = true
  room : L.length * 5 < t.mask * 3
  few : L.length < 64
variable {a : Addr} {L : List (Addr × κ)} {es : Array (Int × Value)} {ep : Nat} {t : SetTable}
theorem SetKR.size (R : SetKR knd s.heap a L es ep t) : es.size = L.length := by
  have h := congrArg List.length R.rows
  unfold rowsK at h
  rw [Array.length_toList, List.length_map] at h
  exact h
theorem SetKR.fits (R : SetKR knd s.heap a L es ep t) : t.fits es.size = true := by
  have h1 := R.tab.sz
  rw [List.length_map] at h1
  have h2 := R.size
  have h3 := R.room
  unfold SetTable.fits SetTable.fill
  rw [R.tab.dm, Bool.and_eq_true, beq_iff_eq, decide_eq_true_eq]
  show t.place.size = es.size ∧ t.place.size + 0 ≤ t.mask
  omega
theorem SetKR.entry (R : SetKR knd s.heap a L es ep t) {i : Nat} {p : Addr × κ} (h : L[i]? = some p) : es[i]? = some (knd.hash p.2, Value.ref p.1) := by
  rw [← Array.getElem?_toList, R.rows]
  unfold rowsK
  rw [List.getElem?_map, h] <;> rfl
theorem SetKR.gw (R : SetKR knd s.heap a L es ep t) : ¬ t.gaveWay = true := by
  unfold SetTable.gaveWay
  rw [mask_odd R.tab.mok]
  decide
/-- THE SEARCH: from the c-th step of the way on -/
theorem search_fromK (hkd : Hk knd) (R : SetKR knd s.heap a L es ep t) {x : Addr} {k : κ} (hx : knd.is s.heap k x) (hu : knd.room A) {K : Nat} (hKf : K < 10 * SetTable.turns t.mask)
    (hK : way t.mask (knd.hash k) K ∉ t.place.toList) (hKb : ∀ c, c < K → way t.mask (knd.hash k) c ∈ t.place.toList) {Q : SetFound → Shared → Prop}
    (hin : k ∈ L.map (·.2) → Q (.there none) s) (hout : k ∉ L.map (·.2) → Q (.free (way t.mask (knd.hash k) K) false) s) :
    ∀ (f c : Nat) (stand : Option SetTable.Probe), stand.getD (t.probeStart (knd.hash k)) = nth t.mask (runAt t.mask (SetTable.bits (knd.hash k) % (t.mask + 1)) (SetTable.bits (knd.hash k))) c → c ≤ K → K - c < f →
      (∀ (i : Nat) p, L[i]? = some p → p.2 = k → ∃ c', c ≤ c' ∧ c' < K ∧ t.place.toList[i]? = some (way t.mask (knd.hash k) c')) →
      wpAny (model P w) A (setSearchFrom a (.ref x) (knd.hash k) true f stand) Q E s
  | 0, c, stand, _, _, hf, _ => absurd hf (Nat.not_lt_zero _)
  | f + 1, c, stand, hst, hc, hf, hre => by
    obtain ⟨o, ho, hex, hd⟩ := R.ob
    rw [setSearchFrom_succ]
    refine wpAny_bind (wpAny_setState_of ho hd R.fits ?_)
    dsimp only
    refine wp_if_neg R.gw ?_
    try refine wpAny_bind (wpAny_pure ?_)
    have hnd : (nth t.mask (runAt t.mask (SetTable.bits (knd.hash k) % (t.mask + 1)) (SetTable.bits (knd.hash k))) c).dummy = none := by
      have key : ∀ (n : Nat) (p : SetTable.Probe), p.dummy = none → (nth t.mask p n).dummy = none := by
        intro n
        induction n with
        | zero => intro p h; exact h
        | succ n ih =>
          intro p h
          refine ih (adv t.mask p) ?_
          unfold adv
          split <;> exact h
      exact key c _ rfl
    have sh : ∀ q, nth t.mask (nth t.mask (runAt t.mask (SetTable.bits (knd.hash k) % (t.mask + 1)) (SetTable.bits (knd.hash k))) c) q = nth t.mask (runAt t.mask (SetTable.bits (knd.hash k) % (t.mask + 1)) (SetTable.bits (knd.hash k))) (c + q) := fun q => (nth_add t.mask c _ q).symm
    have e1 : ∀ q, (nth t.mask (nth t.mask (runAt t.mask (SetTable.bits (knd.hash k) % (t.mask + 1)) (SetTable.bits (knd.hash k))) c) q).j = way t.mask (knd.hash k) (c + q) := fun q => congrArg SetTable.Probe.j (sh q)
    have spec := go_spec t R.tab.ris R.tab.dm (fun i => (es[i]?.map (·.1)).getD 0) (knd.hash k) (10 * SetTable.turns t.mask) (K - c) _ hnd (by omega)
      (fun q hq => by rw [e1]; exact hKb (c + q) (by omega)) (by rw [e1, show c + (K - c) = K by omega]; exact hK)
    have hashAt : ∀ (i : Nat) p, L[i]? = some p → (fun i => (es[i]?.map (·.1)).getD 0) i = knd.hash p.2 := fun i p hp => by
      show (es[i]?.map (·.1)).getD 0 = _
      rw [R.entry hp] <;> rfl
    rcases spec with ⟨q, i, hq, hi, hh, hno, hpr⟩ | ⟨hno, hpr⟩
    · -- a candidate
      have hpr' : t.probe (fun i => (es[i]?.map (·.1)).getD 0) (knd.hash k) (stand.getD (t.probeStart (knd.hash k))) = some (.candidate (way t.mask (knd.hash k) (c + q)) i (nth t.mask (runAt t.mask (SetTable.bits (knd.hash k) % (t.mask + 1)) (SetTable.bits (knd.hash k))) (c + (q + 1)))) := by
        rw [hst, ← e1, ← sh]
        exact hpr
      rw [hpr']
      dsimp only
      rw [e1] at hi
      -- the entry
      have hil : i < L.length := by
        have h1 : i < t.place.toList.length := (List.getElem?_eq_some_iff.mp hi).1
        have h2 := R.tab.sz
        rw [List.length_map] at h2
        rw [Array.length_toList] at h1
        omega
      have hp : L[i]? = some L[i] := List.getElem?_eq_getElem hil
      generalize hpe : L[i] = p at hp
      have hmem : p ∈ L := List.mem_of_getElem? hp
      have hpt := R.tup p hmem
      have rest : wpAny (model P w) A (searchRest a (.ref x) (knd.hash k) true f es t (way t.mask (knd.hash k) (c + q)) i (nth t.mask (runAt t.mask (SetTable.bits (knd.hash k) % (t.mask + 1)) (SetTable.bits (knd.hash k))) (c + (q + 1)))) Q E s := by
        unfold searchRest
        rw [R.entry hp]
        dsimp only
        refine wpAny_bind (wpAny_holding (knd.eqBool hu hpt hx ?_))
        refine wpAny_bind (wpAny_setState_of ho hd R.fits ?_)
        dsimp only
        by_cases hkk : p.2 = k
        · refine wp_if_pos (by simp [hkk]) ?_
          refine wpAny_pure (hin ?_)
          exact List.mem_map.mpr ⟨p, hmem, hkk⟩
        · refine wp_if_neg (by simp [hkk]) ?_
          try refine wpAny_bind (wpAny_pure ?_)
          rw [sameMem]
          dsimp only
          have hsl : t.slot (way t.mask (knd.hash k) (c + q)) = .live i := slot_live R.tab.ris hi
          simp only [if_true, hsl, R.entry hp]
          refine wpAny_bind (wpAny_isSame_ref_self (wpAny_bind (wpAny_pure ?_)))
          simp only [if_true]
          refine wp_if_neg (by simp [hkk]) ?_
          refine search_fromK hkd R hx hu hKf hK hKb hin hout f (c + (q + 1)) _ rfl (by omega) (by omega) fun i0 p0 h0 hk0 => ?_
          obtain ⟨c', a1, a2, a3⟩ := hre i0 p0 h0 hk0
          refine ⟨c', ?_, a2, a3⟩
          -- it isn't passed
          rcases Nat.lt_or_ge c' (c + q) with z | z
          · exfalso
            refine hno (c' - c) i0 (by omega) (by rw [e1, show c + (c' - c) = c' by omega]; exact a3) ?_
            exact (hashAt i0 p0 h0).trans (congrArg (knd.hash) hk0)
          · rcases Nat.lt_or_ge (c + q) c' with y | y
            · omega
            · exfalso
              have ec : c' = c + q := Nat.le_antisymm y z
              rw [ec] at a3
              have s0 := slot_live R.tab.ris a3
              rw [hsl] at s0
              injection s0 with s0
              rw [← s0, hp] at h0
              exact hkk ((congrArg Prod.snd (Option.some.inj h0)).trans hk0)
      by_cases hl : t.led = true
      · refine wp_if_neg (by simp [hl]) ?_
        try refine wpAny_bind (wpAny_pure ?_)
        exact rest
      · refine wp_if_pos (by simp [hl]) ?_
        refine wpAny_bind (hkd.seen hx (fun y hy => ?_) ?_)
        · obtain ⟨e, he, ee⟩ := List.mem_map.mp hy
          have he1 : e ∈ es ∧ e.1 = knd.hash k := by simpa using he
          have he2 : e ∈ es.toList := by simpa using he1.1
          rw [R.rows] at he2
          obtain ⟨p2, hp2, e2⟩ := List.mem_map.mp he2
          refine ⟨p2.2, p2.1, ?_, R.tup p2 hp2⟩
          rw [← ee, ← e2]
        · refine wp_if_neg (by decide) ?_
          try refine wpAny_bind (wpAny_pure ?_)
          exact rest
    · -- the empty slot
      have hpr' : t.probe (fun i => (es[i]?.map (·.1)).getD 0) (knd.hash k) (stand.getD (t.probeStart (knd.hash k))) = some (.empty (way t.mask (knd.hash k) K) none) := by
        have e2 : way t.mask (knd.hash k) K = (nth t.mask (nth t.mask (runAt t.mask (SetTable.bits (knd.hash k) % (t.mask + 1)) (SetTable.bits (knd.hash k))) c) (K - c)).j := by
          rw [e1, show c + (K - c) = K by omega]
        rw [hst, e2]
        exact hpr
      rw [hpr']
      dsimp only
      refine wpAny_pure (hout fun hm => ?_)
      obtain ⟨p0, h0, hk0⟩ := List.mem_map.mp hm
      obtain ⟨i0, hi0, e0⟩ := List.getElem_of_mem h0
      have h00 : L[i0]? = some p0 := by rw [List.getElem?_eq_getElem hi0, e0]
      obtain ⟨c', a1, a2, a3⟩ := hre i0 p0 h00 hk0
      refine hno (c' - c) i0 (by omega) (by rw [e1, show c + (c' - c) = c' by omega]; exact a3) ?_
      exact (hashAt i0 p0 h00).trans (congrArg (knd.hash) hk0)
/-- the search as adding asks for it -/
theorem search_atK (hkd : Hk knd) (R : SetKR knd s.heap a L es ep t) {x : Addr} {k : κ} (hx : knd.is s.heap k x) (hu : knd.room A) {Q : SetFound → Shared → Prop}
    (hin : k ∈ L.map (·.2) → Q (.there none) s)
    (hout : ∀ K, k ∉ L.map (·.2) → way t.mask (knd.hash k) K ∉ t.place.toList → (∀ c, c < K → way t.mask (knd.hash k) c ∈ t.place.toList) → Q (.free (way t.mask (knd.hash k) K) false) s) :
    wpAny (model P w) A (setSearch a (.ref x) (knd.hash k) true) Q E s := by
  have hroom := R.room
  obtain ⟨K, hKf, hK, hKb⟩ := R.tab.first (by rw [List.length_map]; omega) (knd.hash k)
  have hbig : K < 100000 := by
    have : 10 * SetTable.turns t.mask ≤ 1420 := by
      unfold SetTable.turns
      rcases R.tab.mok with e | e | e <;> omega
    omega
  unfold setSearch
  refine search_fromK hkd R hx hu hKf hK hKb hin (fun hn => hout K hn hK hKb) 100000 0 none rfl (Nat.zero_le _) (by omega) fun i p hp hk => ?_
  have hi : (L.map fun p => knd.hash p.2)[i]? = some (knd.hash k) := by rw [List.getElem?_map, hp, ← hk] <;> rfl
  have hil : i < t.place.toList.length := by
    have h1 : i < L.length := (List.getElem?_eq_some_iff.mp hp).1
    have h2 := R.tab.sz
    rw [List.length_map] at h2
    rw [Array.length_toList]
    omega
  have hj := List.getElem?_eq_getElem hil
  obtain ⟨c, hc, e⟩ := R.tab.before hK hi hj
  exact ⟨c, Nat.zero_le _, hc, by rw [hj, e]⟩
theorem rows_putK (L : List (Addr × κ)) (p : Nat) (x : Addr) (k : κ) : rowsK knd (L.take p ++ (x, k) :: L.drop p) = (rowsK knd L).take p ++ (knd.hash k, Value.ref x) :: (rowsK knd L).drop p := by
  unfold rowsK
  rw [List.map_append, List.map_cons, List.map_take, List.map_drop]
theorem order_rowsK (L : List (Addr × κ)) (es : Array (Int × Value)) (order : Array Nat) (hr : es.toList = rowsK knd L) (hp : order.toList.Perm (List.range L.length)) :
    ∃ L2, (order.filterMap (es[·]?)).toList = rowsK knd L2 ∧ L2.Perm L ∧ (L2.map fun p => knd.hash p.2) = order.toList.map fun i => (es.map (·.1)).getD i 0 := by
  have hsz : es.size = L.length := by
    have h := congrArg List.length hr
    unfold rowsK at h
    rw [Array.length_toList, List.length_map] at h
    exact h
  have ent : ∀ i (h : i < L.length), es[i]? = some (knd.hash (L[i]).2, Value.ref (L[i]).1) := fun i h => by
    rw [← Array.getElem?_toList, hr]
    unfold rowsK
    rw [List.getElem?_map, List.getElem?_eq_getElem h] <;> rfl
  have key : ∀ l : List Nat, (∀ i ∈ l, i < L.length) → ∃ L2 : List (Addr × κ), l.filterMap (fun i => es[i]?) = rowsK knd L2 ∧ L2 = l.filterMap (fun i => L[i]?) ∧ (L2.map fun p => knd.hash p.2) = l.map fun i => (es.map (·.1)).getD i 0 := by
    intro l
    induction l with
    | nil => intro _; exact ⟨[], rfl, rfl, rfl⟩
    | cons i l ih =>
      intro hl
      have hi := hl i List.mem_cons_self
      obtain ⟨L2, e1, e2, e3⟩ := ih fun j hj => hl j (List.mem_cons_of_mem _ hj)
      refine ⟨L[i] :: L2, ?_, ?_, ?_⟩
      · rw [List.filterMap_cons_some (ent i hi), e1] <;> rfl
      · rw [List.filterMap_cons_some (List.getElem?_eq_getElem hi), e2]
      · rw [List.map_cons, List.map_cons, e3]
        have hi2 : i < (es.map (·.1)).size := by rw [Array.size_map, hsz]; exact hi
        have e4 : (es.map (·.1)).getD i 0 = knd.hash (L[i]).2 := by
          have e5 : (es.map (·.1))[i]? = some (knd.hash (L[i]).2) := by rw [Array.getElem?_map, ent i hi] <;> rfl
          simp [Array.getD_eq_getD_getElem?, e5]
        rw [e4]
  obtain ⟨L2, e1, e2, e3⟩ := key order.toList fun i hi => List.mem_range.mp (hp.mem_iff.mp hi)
  refine ⟨L2, by first | (rw [Array.toList_filterMap]; exact e1) | simpa using e1, ?_, e3⟩
  have h1 : L2.Perm ((List.range L.length).filterMap fun i => L[i]?) := by
    rw [e2]
    exact hp.filterMap _
  have h2 : (List.range L.length).filterMap (fun i => L[i]?) = L := by
    have key2 : ∀ n, n ≤ L.length → (List.range n).filterMap (fun i => L[i]?) = L.take n := by
      intro n
      induction n with
      | zero => intro _; rfl
      | succ n ih =>
        intro hn
        have hlt : n < L.length := hn
        rw [List.range_succ, List.filterMap_append, ih (Nat.le_of_lt hlt), List.take_succ, List.getElem?_eq_getElem hlt]
        rw [List.filterMap_cons_some (List.getElem?_eq_getElem hlt)] <;> rfl
    rw [key2 L.length (Nat.le_refl _), List.take_length]
  rw [h2] at h1
  exact h1
variable {a : Addr} {L : List (Addr × κ)} {es : Array (Int × Value)} {ep : Nat} {t : SetTable}
/-- the table laid anew, larger -/
theorem relay_atK (hkd : Hk knd) {o : Obj} (ho : s.heap.get? a = some o) (hex : o.ExactSet) (hd : o.data = .set es ep t) (hrows : es.toList = rowsK knd L) (hsz : t.place.size = es.size) (hdm : t.dummies = #[]) (hfl : es.size ≤ t.mask)
    (nd : (L.map (·.2)).Nodup) (tup : ∀ p ∈ L, knd.is s.heap p.2 p.1) (ld : w.params.followText "set-order" = true ∨ t.led = true) (few : L.length < 64) {wanted M : Nat}
    (hw : SetTable.sizeAbove wanted - 1 = M) (hM : MaskOk M) (hw2 : SetTable.sizeAbove wanted ≤ 128) (hn : L.length * 5 < M * 3) {Q : Unit → Shared → Prop}
    (hQ : ∀ h' L' es' ep' t', Heap.SameBut a s.heap h' → SetKR knd h' a L' es' ep' t' → L'.Perm L → Q () { s with heap := h' }) : wpAny (model P w) A (setRelay a wanted) Q E s := by
  have hsl : es.size = L.length := by
    have h := congrArg List.length hrows
    unfold rowsK at h
    rw [Array.length_toList, List.length_map] at h
    exact h
  have hfits : t.fits es.size = true := by
    unfold SetTable.fits SetTable.fill
    rw [hdm, Bool.and_eq_true, beq_iff_eq, decide_eq_true_eq]
    show t.place.size = es.size ∧ t.place.size + 0 ≤ t.mask
    omega
  obtain ⟨t', order, e, hp, T, em, el, ep', ed⟩ := relaid_ok t (hs := es.map (·.1)) (wanted := wanted) hw hM (by rw [Array.size_map, hsl]; omega)
  rw [Array.size_map, hsl] at hp
  obtain ⟨L2, r1, r2, r3⟩ := order_rowsK L es order hrows hp
  rw [← r3] at T
  have hs2 : (order.filterMap (es[·]?)).size = es.size := by
    have h := congrArg List.length r1
    unfold rowsK at h
    rw [Array.length_toList, List.length_map, r2.length_eq] at h
    rw [h, hsl]
  rw [setRelay_eq]
  refine wpAny_bind (wpAny_setState_of ho hd hfits ?_)
  dsimp only
  refine wp_if_neg (by rw [sizeLine_eq]; omega) ?_
  try refine wpAny_bind (wpAny_pure ?_)
  rw [e]
  dsimp only
  refine wpAny_bind ?_
  refine wp_if_neg (by rw [hs2]; simp) ?_
  try refine wpAny_bind (wpAny_pure ?_)
  refine wpAny_pure ?_
  dsimp only
  refine wpAny_storeSet_of ho hd ?_ (by rw [hs2, hsl, sizeLine_eq]; omega)
  have sb : Heap.SameBut a s.heap (s.heap.update a (Obj.putSet (order.filterMap (es[·]?)) t')) := Heap.SameBut.update ..
  refine hQ _ L2 (order.filterMap (es[·]?)) (ep + 1) t' sb ?_ r2
  refine ⟨⟨_, store_at ho hd, ⟨hex.1, hex.2.1, hex.2.2⟩, rfl⟩, r1, T, ?_, fun p hpm => hkd.same (tup p (r2.mem_iff.mp hpm)) ho hd sb, by rw [el]; exact ld, ?_, by rw [r2.length_eq]; exact few⟩
  · exact (r2.map (·.2)).nodup_iff.mpr nd
  · rw [r2.length_eq, em]
    exact hn
theorem tabOff {t : SetTable} {hs : List Int} (q3 : TabOk t hs) (b : Bool) : TabOk (if b = true then t else { t with plain := false }) hs := by
  cases b
  · exact ⟨q3.ris, q3.dm, q3.sz, q3.mok, q3.bd, q3.reach⟩
  · exact q3
theorem anyB (hkd : Hk knd) {c : Bool} {x : Addr} {k : κ} {f : Bool → Sem Bool} {Q : Bool → Shared → Prop} (hx : knd.is s.heap k x) (h : ∀ b, wpAny (model P w) A (f b) Q E s) : wpAny (model P w) A (if c = true then hashByValue 8 (.ref x) >>= f else pure true >>= f) Q E s := by
  cases c with
  | true => exact wp_if_pos rfl (wpAny_bind (hkd.hashBy hx h))
  | false => exact wp_if_neg (by decide) (wpAny_bind (wpAny_pure (h true)))
/-- ADDING -/
theorem add_atK (hkd : Hk knd) (R : SetKR knd s.heap a L es ep t) {x : Addr} {k : κ} (hx : knd.is s.heap k x) (hu : knd.room A) (hfew : k ∉ L.map (·.2) → L.length + 1 < 64) {Q : Bool → Shared → Prop}
    (hQ : ∀ b h' L' es' ep' t', Heap.SameBut a s.heap h' → SetKR knd h' a L' es' ep' t' → (k ∈ L.map (·.2) → L' = L) → (k ∉ L.map (·.2) → L'.Perm ((x, k) :: L)) → Q b { s with heap := h' }) :
    wpAny (model P w) A (setAddHashed a (.ref x) (knd.hash k)) Q E s := by
  obtain ⟨o, ho, hex, hd⟩ := R.ob
  have hsl := R.size
  have hroom := R.room
  unfold setAddHashed
  refine wpAny_holding ?_
  rw [show (100000 : Nat) = 99999 + 1 from rfl, setAddHashedIn_succ]
  refine wpAny_bind (wpAny_setState_of ho hd R.fits ?_)
  dsimp only
  refine wp_if_neg (by simp [byScan, Value.scannable]) ?_
  try refine wpAny_bind (wpAny_pure ?_)
  refine wpAny_bind (search_atK hkd R hx hu (fun hm => ?_) fun K hm hK hb => ?_)
  · dsimp only
    exact wpAny_pure (hQ false s.heap L es ep t (Heap.SameBut.refl a s.heap) R (fun _ => rfl) fun z => absurd hm z)
  · have hfew := hfew hm
    dsimp only
    refine wpAny_bind (wpAny_setState_of ho hd R.fits ?_)
    dsimp only
    obtain ⟨q1, q2, q3, q4, q5, q6, q7, q8, q9⟩ := R.tab.put hK hb
    generalize hpt : t.put (way t.mask (knd.hash k) K) = pt at q1 q3 q4 q5 q6 q7 q8 q9 ⊢
    obtain ⟨t1, p⟩ := pt
    dsimp only at q1 q3 q4 q5 q6 q7 q8 q9 ⊢
    subst q1
    refine anyB hkd hx fun b => ?_
    have q3' := tabOff q3 b
    have q4' : (if b = true then t1 else { t1 with plain := false }).mask = t.mask := by cases b <;> exact q4
    have q5' : (if b = true then t1 else { t1 with plain := false }).led = t.led := by cases b <;> exact q5
    have q9' : (if b = true then t1 else { t1 with plain := false }).fill = (L.map fun p => knd.hash p.2).length + 1 := by cases b <;> exact q9
    generalize (if b = true then t1 else { t1 with plain := false }) = t2 at q3' q4' q5' q9' ⊢
    clear q3 q4 q5 q6 q7 q8 q9
    have q3 := q3'
    have q4 := q4'
    have q5 := q5'
    have q9 := q9'
    have hin : (SetTable.insertAt es (SetTable.below t.place (way t.mask (knd.hash k) K)) (knd.hash k, Value.ref x)).toList = rowsK knd (L.take (SetTable.below t.place (way t.mask (knd.hash k) K)) ++ (x, k) :: L.drop (SetTable.below t.place (way t.mask (knd.hash k) K))) := by
      rw [SetTable.toList_insertAt, rows_putK, R.rows]
    generalize hpp : SetTable.below t.place (way t.mask (knd.hash k) K) = p at q2 q3 hin ⊢
    have pm := put_perm L p (x, k)
    have hlen : (L.take p ++ (x, k) :: L.drop p).length = L.length + 1 := pm.length_eq
    have hhs : (L.take p ++ (x, k) :: L.drop p).map (fun p => knd.hash p.2) = (L.map fun p => knd.hash p.2).take p ++ knd.hash k :: (L.map fun p => knd.hash p.2).drop p := by
      rw [List.map_append, List.map_cons, List.map_take, List.map_drop]
    rw [← hhs] at q3
    have nd1 : ((L.take p ++ (x, k) :: L.drop p).map (·.2)).Nodup := by
      refine (pm.map (·.2)).nodup_iff.mpr ?_
      rw [List.map_cons]
      exact List.nodup_cons.mpr ⟨hm, R.nd⟩
    have hes : (SetTable.insertAt es p (knd.hash k, Value.ref x)).size = L.length + 1 := by
      have h := congrArg List.length hin
      unfold rowsK at h
      rw [Array.length_toList, List.length_map, hlen] at h
      exact h
    generalize SetTable.insertAt es p (knd.hash k, Value.ref x) = es1 at hin hes ⊢
    generalize L.take p ++ (x, k) :: L.drop p = L1 at pm hlen q3 nd1 hin
    refine wpAny_bind (wpAny_storeSet_of ho hd ?_ (by rw [hes, sizeLine_eq]; omega))
    have sb : Heap.SameBut a s.heap (s.heap.update a (Obj.putSet es1 t2)) := Heap.SameBut.update ..
    have ho1 := store_at (es' := es1) (t' := t2) ho hd
    generalize s.heap.update a (Obj.putSet es1 t2) = h1 at sb ho1 ⊢
    have tup1 : ∀ p ∈ L1, knd.is h1 p.2 p.1 := fun p hp => by
      rcases List.mem_cons.mp (pm.mem_iff.mp hp) with e | hp
      · rw [e]; exact hkd.same hx ho hd sb
      · exact hkd.same (R.tup p hp) ho hd sb
    have ld1 : w.params.followText "set-order" = true ∨ t2.led = true := by rw [q5]; exact R.led
    by_cases hf : t2.tooFull = true
    · first
        | (refine wpAny_bind ?_; refine wp_if_pos (by simp [hf]) ?_)
        | (refine wp_if_pos (by simp [hf]) ?_; refine wpAny_bind ?_)
      have hfull : (L.length + 1) * 5 ≥ t2.mask * 3 := by
        have h := hf
        unfold SetTable.tooFull at h
        rw [decide_eq_true_eq, q9, List.length_map] at h
        exact h
      rw [hsl]
      have hsz1 : t2.place.size = es1.size := by
        have h := q3.sz
        rw [List.length_map, hlen] at h
        rw [h, hes]
      have cases2 : (t.mask = 7 ∧ L.length = 4) ∨ (t.mask = 31 ∧ L.length = 18) := by
        rcases R.tab.mok with e | e | e
        · left; rw [q4, e] at hfull; rw [e] at hroom; exact ⟨e, by omega⟩
        · right; rw [q4, e] at hfull; rw [e] at hroom; exact ⟨e, by omega⟩
        · exfalso; rw [q4, e] at hfull; omega
      have go : ∀ M, SetTable.sizeAbove (SetTable.grown (L.length + 1)) - 1 = M → MaskOk M → SetTable.sizeAbove (SetTable.grown (L.length + 1)) ≤ 128 → (L.length + 1) * 5 < M * 3 →
          wpAny (model P w) A (setRelay a (SetTable.grown (L.length + 1))) (fun _ s' => wpAny (model P w) A (pure true) Q E s') E { s with heap := h1 } := fun M h1' h2' h3' h4' => by
        refine relay_atK hkd (s := { s with heap := h1 }) ho1 ⟨hex.1, hex.2.1, hex.2.2⟩ rfl hin hsz1 q3.dm (by rw [hes, q4]; rcases cases2 with ⟨e, e2⟩ | ⟨e, e2⟩ <;> omega) nd1 tup1 ld1 (by rw [hlen]; exact hfew) h1' h2' h3' (by rw [hlen]; exact h4') ?_
        intro h2 L2 es2 ep2 t2 sb2 R2 pm2
        refine wpAny_pure (hQ true h2 L2 es2 ep2 t2 (sb.trans sb2) R2 (fun z => absurd z hm) fun _ => pm2.trans pm)
      rcases cases2 with ⟨_, e2⟩ | ⟨_, e2⟩
      · refine go 31 (by rw [e2, size_20]) (.inr (.inl rfl)) (by rw [e2, size_20]; decide) (by omega)
      · refine go 127 (by rw [e2, size_76]) (.inr (.inr rfl)) (by rw [e2, size_76]; decide) (by omega)
    · first
        | refine wp_if_neg (by simp [hf]) ?_
        | (refine wpAny_bind ?_; refine wp_if_neg (by simp [hf]) ?_; refine wpAny_pure ?_)
      refine wpAny_pure (hQ true h1 L1 es1 (ep + 1) t2 sb ⟨⟨_, ho1, ⟨hex.1, hex.2.1, hex.2.2⟩, rfl⟩, hin, q3, nd1, tup1, ld1, ?_, by rw [hlen]; exact hfew⟩ (fun z => absurd z hm) fun _ => pm)
      have h := hf
      unfold SetTable.tooFull at h
      rw [decide_eq_true_eq, q9, List.length_map] at h
      rw [hlen]
      omega
structure GotK (ks : List (Addr × κ)) (i : Nat) (L : List (Addr × κ)) : Prop where
  sub : ∀ p ∈ L, p ∈ ks.take i
  all : ∀ p ∈ ks.take i, p.2 ∈ L.map (·.2)
  len : L.length ≤ i
theorem GotK.zero (ks : List (Addr × κ)) : GotK ks 0 [] := ⟨fun p h => (by cases h), fun p h => (by simp at h), Nat.le_refl _⟩
theorem GotK.same {ks L : List (Addr × κ)} {i : Nat} {x : Addr × κ} (g : GotK ks i L) (h : ks[i]? = some x) (hm : x.2 ∈ L.map (·.2)) : GotK ks (i + 1) L := by
  refine ⟨fun p hp => ?_, fun p hp => ?_, Nat.le_succ_of_le g.len⟩
  · rw [take_next h]
    exact List.mem_append_left _ (g.sub p hp)
  · rw [take_next h] at hp
    rcases List.mem_append.mp hp with z | z
    · exact g.all p z
    · rw [List.mem_singleton.mp z]; exact hm
theorem GotK.more {ks L L' : List (Addr × κ)} {i : Nat} {x : Addr × κ} (g : GotK ks i L) (h : ks[i]? = some x) (pm : L'.Perm (x :: L)) : GotK ks (i + 1) L' := by
  refine ⟨fun p hp => ?_, fun p hp => ?_, ?_⟩
  · rw [take_next h]
    rcases List.mem_cons.mp (pm.mem_iff.mp hp) with e | z
    · rw [e]; exact List.mem_append_right _ (List.mem_singleton.mpr rfl)
    · exact List.mem_append_left _ (g.sub p z)
  · rw [(pm.map (·.2)).mem_iff, List.map_cons]
    rw [take_next h] at hp
    rcases List.mem_append.mp hp with z | z
    · exact List.mem_cons_of_mem _ (g.all p z)
    · rw [List.mem_singleton.mp z]; exact List.mem_cons_self
  · rw [pm.length_eq, List.length_cons]
    exact Nat.succ_le_succ g.len
theorem SetKR.keep {h h' : Heap} {a : Addr} {L : List (Addr × κ)} {es : Array (Int × Value)} {ep : Nat} {t : SetTable} (R : SetKR knd h a L es ep t) (ha : ∀ o, h.get? a = some o → h'.get? a = some o) (ht : ∀ p ∈ L, knd.is h' p.2 p.1) : SetKR knd h' a L es ep t := by
  obtain ⟨o, ho, r⟩ := R.ob
  exact ⟨⟨o, ha o ho, r⟩, R.rows, R.tab, R.nd, ht, R.led, R.room, R.few⟩
/-- a new set -/
theorem setKR_fresh {h : Heap} {a : Addr} (ho : h.get? a = some { cls := .type "set", dict := none, data := .set #[] 0 (.fresh 0 0 (!w.params.followText "set-order")) }) : SetKR knd h a [] #[] 0 (.fresh 0 0 (!w.params.followText "set-order")) where
  ob := ⟨_, ho, ⟨rfl, rfl, rfl⟩, rfl⟩
  rows := rfl
  tab := ⟨List.Pairwise.nil, rfl, rfl, .inl rfl, fun x hx => (by cases hx), fun i h j hi => (by simp at hi)⟩
  nd := List.nodup_nil
  tup := fun p hp => (by cases hp)
  led := by
    show _ ∨ (!w.params.followText "set-order") = true
    cases w.params.followText "set-order"
    · exact .inr rfl
    · exact .inl rfl
  room := by
    show 0 * 5 < 7 * 3
    decide
  few := by
    show 0 < 64
    decide
/-- set.update's loop -/
theorem set_updateK (hkd : Hk knd) {I : Addr} {fp wr : List Addr} {G : Array GenState → Array GenState → Prop} {n : Nat} {Pv : Nat → Value → Prop} {St : Nat → Shared → Prop} {R : Result → Shared → Prop}
    (W : WalksS P w A.in1 I fp wr G n Pv St) (S : Addr) (hSf : S ∉ fp) (ks : List (Addr × κ)) (hn : n = ks.length) (D : List κ) (hD : D.length < 64) (hkD : ∀ p ∈ ks, p.2 ∈ D) (hval : ∀ i v, Pv i v → ∃ p, ks[i]? = some p ∧ v = .ref p.1)
    (h0 : Heap) (hk : ∀ p ∈ ks, knd.is h0 p.2 p.1) (hS0 : h0.get? S = none) (hw0 : ∀ b ∈ wr, h0.get? b = none) (hu : knd.room A.in1) :
    ∀ (k i : Nat) (s : Shared), n - i = k → i ≤ n → St i s → (∀ b o, h0.get? b = some o → s.heap.get? b = some o) → (∃ L es ep t, SetKR knd s.heap S L es ep t ∧ GotK ks i L) →
      (∀ s' L es ep t, Moved (S :: wr) G s s' → SetKR knd s'.heap S L es ep t → GotK ks n L → (∀ b o, h0.get? b = some o → s'.heap.get? b = some o) → R (.ok (.ret .none)) s') →
      codeAny (model P w) A (.builtin "set.update.loop" ⟨[.ref S, .ref I], []⟩) R s := by
  have hSw : S ∉ wr := fun h => hSf (W.sub _ h)
  have hsub : ∀ b ∈ wr, b ∈ S :: wr := fun b hb => List.mem_cons_of_mem _ hb
  have keepM : ∀ {s s' : Shared}, Moved wr G s s' → (∀ b o, h0.get? b = some o → s.heap.get? b = some o) → ∀ b o, h0.get? b = some o → s'.heap.get? b = some o := fun hm hkp b o e =>
    hm.heap b o (fun hb => by rw [hw0 b hb] at e; cases e) (hkp b o e)
  intro k
  induction k with
  | zero =>
    intro i s hk' hi hst hkp ⟨L, es, ep, t, hS, g⟩ hR
    have hin : i = n := by omega
    subst hin
    refine codeAny_builtin F.entry_set_update_loop ?_
    rw [Around.under_plainId F.plain_set_update_loop _]
    show wpAny _ A.in1 (pyNext (.ref I) >>= _) _ _ s
    refine wpAny_bind (W.done s _ _ hst fun s' hm => ?_)
    show wpAny _ A.in1 (ret Value.none) _ _ s'
    have hkp' := keepM hm hkp
    have sub : ∀ p ∈ L, p ∈ ks := fun p hp => List.mem_of_mem_take (g.sub p hp)
    exact wpAny_pure (hR s' L es ep t (hm.mono hsub) (hS.keep (fun o e => hm.heap S o hSw e) fun p hp => hkd.keep (hk p (sub p hp)) hkp') g hkp')
  | succ k ih =>
    intro i s hk' hi hst hkp ⟨L, es, ep, t, hS, g⟩ hR
    have hlt : i < n := by omega
    refine codeAny_builtin F.entry_set_update_loop ?_
    rw [Around.under_plainId F.plain_set_update_loop _]
    show wpAny _ A.in1 (pyNext (.ref I) >>= _) _ _ s
    refine wpAny_bind (W.item i s _ _ hlt hst fun v s' hP hst' hm => ?_)
    obtain ⟨p, hp, rfl⟩ := hval i v hP
    have hkp' := keepM hm hkp
    have sub : ∀ p ∈ L, p ∈ ks := fun p hp => List.mem_of_mem_take (g.sub p hp)
    have hS' : SetKR knd s'.heap S L es ep t := hS.keep (fun o e => hm.heap S o hSw e) fun q hq => hkd.keep (hk q (sub q hq)) hkp'
    have hx : knd.is s'.heap p.2 p.1 := hkd.keep (hk p (List.mem_of_getElem? hp)) hkp'
    show wpAny _ A.in1 (holding [Value.ref p.1] (setAdd S (.ref p.1)) >>= _) _ _ s'
    refine wpAny_bind (wpAny_holding ?_)
    unfold setAdd
    refine wpAny_holding ?_
    refine wpAny_bind (knd.pyHash hu hx ?_)
    refine add_atK hkd (s := { s' with toks := s'.toks + knd.draws p.2 }) hS' hx hu (fun hn => ?_) fun b h' L' es' ep' t' hsb hS2 c1 c2 => ?_
    · have nd2 : (p.2 :: L.map (·.2)).Nodup := List.nodup_cons.mpr ⟨hn, hS'.nd⟩
      have := nodup_leK (p.2 :: L.map (·.2)) D nd2 fun z hz => by
        rcases List.mem_cons.mp hz with e | hz
        · rw [e]; exact hkD p (List.mem_of_getElem? hp)
        · obtain ⟨q, hq, e⟩ := List.mem_map.mp hz
          rw [← e]; exact hkD q (sub q hq)
      rw [List.length_cons, List.length_map] at this
      omega
    have g' : GotK ks (i + 1) L' := by
      rcases Classical.em (p.2 ∈ L.map (·.2)) with c | c
      · rw [c1 c]; exact g.same hp c
      · exact g.more hp (c2 c)
    have hkp2 : ∀ b o, h0.get? b = some o → h'.get? b = some o := fun b o e => (hsb.2 b (fun z => by rw [z, hS0] at e; cases e)).trans (hkp' b o e)
    refine wpAny_pure ⟨plainId_quiet F.plain_set_update_loop _, ih (i + 1) _ (by omega) hlt (W.frame _ s' _ _ hst' (Nat.le_add_right _ _) fun b hb o e => ?_) hkp2 ⟨L', es', ep', t', hS2, g'⟩ fun s'' L2 es2 ep2 t2 hm'' hS'' g'' hkp'' => ?_⟩
    · rw [hsb.2 b (fun h : b = S => hSf (by rw [← h]; exact hb))]; exact e
    · refine hR s'' L2 es2 ep2 t2 (Moved.trans W.gtrans ((hm.mono hsub).then_heap (Nat.le_add_right _ _) fun b o hb e => ?_) hm'') hS'' g'' hkp''
      rw [hsb.2 b (fun h : b = S => hb (by rw [h]; exact List.mem_cons_self))]; exact e
end
end Lg
/-! Lg25 -/
set_option maxHeartbeats 1000000
namespace Lg
open PySem PySem.Spec PyProof.Rows L2
section
variable {P : Program} {w : World} {A : Around} {E : Value → Shared → Prop} {s : Shared}
/-- a tuple of texts as a key -/
abbrev rowK (P : Program) (w : World) : HeapKind P w (List Str) := tupleKind (PySem.strKind P w)
abbrev IsR (P : Program) (w : World) (h : Heap) (k : List Str) (a : Addr) : Prop := IsTupleKey (PySem.strKind P w) h k a
theorem items_str {k : List Str} {vs : List Value} (h : ItemsAre (PySem.strKind P w) k vs) : StrsAre vs k := by
  induction h with
  | nil => exact .nil
  | @cons k0 v ks vs h1 _ ih =>
    obtain ⟨t, rfl⟩ := Value.isStrOf_shape h1
    exact .cons k0 t ih
theorem items_text {k : List Str} {vs : List Value} (h : ItemsAre (PySem.strKind P w) k vs) : ∀ v ∈ vs, ∃ x t, v = Value.str x t := by
  have h2 := items_str h
  clear h
  induction h2 with
  | nil => intro v hv; cases hv
  | cons x t _ ih =>
    intro v hv
    rcases List.mem_cons.mp hv with e | hv
    · exact ⟨x, t, e⟩
    · exact ih v hv
theorem ofAClass_str (n : Nat) (x : Str) (t : Tok) : ofAClassStatement n (.str x t) = pure false := by
  cases n <;> rfl
theorem hashBy_str (n : Nat) (x : Str) (t : Tok) : hashByValue n (.str x t) = pure false := by
  have hsc : (Value.str x t).scannable = true := rfl
  rw [hashByValue_scannable n hsc]
  rfl
theorem ofAClass_row {k : List Str} {b : Addr} {Q : Bool → Shared → Prop} (hk : IsR P w s.heap k b) (h : Q false s) : wpAny (model P w) A (ofAClassStatement 8 (.ref b)) Q E s := by
  have hT := hk.typeIs
  obtain ⟨o, items, n, ho, _, hd, hi⟩ := hk
  unfold ofAClassStatement
  refine wpAny_bind (wpAny_typeOf hT ?_)
  dsimp only
  have e : (("tuple" : String) == "tuple") = true := by decide
  simp only [e, if_true, Bool.not_true, Bool.false_eq_true, if_false]
  try refine wpAny_bind (wpAny_pure ?_)
  try simp only [Bool.not_true, Bool.false_eq_true, if_false]
  show wpAny _ _ (seqItems? (.ref b) >>= _) _ _ s
  refine wpAny_bind (wpAny_seqItems ho hd ?_)
  dsimp only
  refine wpAny_bind ?_
  show wpAny _ _ (forIn items _ _) _ _ s
  rw [← Array.forIn_toList]
  refine wpAny_forIn_list _ (fun rest r s' => r.1 = none ∧ s' = s ∧ ∀ v ∈ rest, ∃ x t, v = Value.str x t) _ ?_ ?_ _ _ ⟨rfl, rfl, items_text hi⟩
  · rintro v rest r s' ⟨hr, rfl, hall⟩
    obtain ⟨i, t, rfl⟩ := hall v List.mem_cons_self
    rw [ofAClass_str]
    refine wpAny_bind (wpAny_pure ?_)
    simp only [Bool.false_eq_true, if_false]
    exact wpAny_pure ⟨rfl, rfl, fun u hu' => hall u (List.mem_cons_of_mem _ hu')⟩
  · rintro ⟨r1, r2⟩ s' ⟨hr, rfl, _⟩
    simp only at hr
    subst hr
    exact wpAny_pure h
theorem hashBy_row {k : List Str} {b : Addr} {Q : Bool → Shared → Prop} (hk : IsR P w s.heap k b) (h : ∀ c, Q c s) : wpAny (model P w) A (hashByValue 8 (.ref b)) Q E s := by
  have hT := hk.typeIs
  obtain ⟨o, items, n, ho, _, hd, hi⟩ := hk
  unfold hashByValue
  refine wpAny_bind (wpAny_specialOf hT F.slot_tuple_hash.lookup ?_)
  show wpAny _ _ (seqItems? (.ref b) >>= _) _ _ s
  refine wpAny_bind (wpAny_seqItems ho hd ?_)
  refine wpAny_bind ?_
  show wpAny _ _ (forIn items _ _) _ _ s
  rw [← Array.forIn_toList]
  refine wpAny_forIn_list _ (fun rest r s' => (r.1 = none ∨ ∃ c, r.1 = some c) ∧ s' = s ∧ ∀ v ∈ rest, ∃ x t, v = Value.str x t) _ ?_ ?_ _ _ ⟨.inl rfl, rfl, items_text hi⟩
  · rintro v rest r s' ⟨hr, rfl, hall⟩
    obtain ⟨i, t, rfl⟩ := hall v List.mem_cons_self
    rw [hashBy_str]
    refine wpAny_bind (wpAny_pure ?_)
    simp only [Bool.not_false, if_true]
    exact wpAny_pure (wpAny_pure (h _))
  · rintro ⟨r1, r2⟩ s' ⟨hr, rfl, _⟩
    simp only at hr
    rcases hr with rfl | ⟨c, rfl⟩ <;> exact wpAny_pure (h _)
theorem seen_row {k : List Str} {b : Addr} {Q : Bool → Shared → Prop} (hk : IsR P w s.heap k b) {ys : List Value} (hy : ∀ y ∈ ys, ∃ k' c, y = Value.ref c ∧ IsR P w s.heap k' c) (h : Q false s) :
    wpAny (model P w) A (searchCouldBeSeen (.ref b) ys) Q E s := by
  unfold searchCouldBeSeen
  refine wpAny_bind ?_
  refine wpAny_forIn_list _ (fun rest r s' => r.1 = none ∧ s' = s ∧ ∀ y ∈ rest, ∃ k' c, y = Value.ref c ∧ IsR P w s.heap k' c) _ ?_ ?_ _ _ ⟨rfl, rfl, hy⟩
  · rintro v rest r s' ⟨hr, rfl, hall⟩
    obtain ⟨k', c, rfl, hc⟩ := hall v List.mem_cons_self
    have rest' : ∀ y ∈ rest, ∃ k' c, y = Value.ref c ∧ IsR P w s'.heap k' c := fun u hu' => hall u (List.mem_cons_of_mem _ hu')
    dsimp only
    by_cases hv : (b == c || (carriedByValue (.ref b) && carriedByValue (.ref c))) = true
    · refine wp_if_pos hv ?_
      exact wpAny_pure ⟨rfl, rfl, rest'⟩
    · refine wp_if_neg hv ?_
      refine wpAny_bind (wpAny_eqIsQuiet_tuple hk ?_)
      simp only [Bool.not_true, Bool.false_eq_true, if_false]
      refine wpAny_bind (wpAny_eqIsQuiet_tuple hc ?_)
      simp only [Bool.not_true, Bool.false_eq_true, if_false]
      refine wpAny_bind (ofAClass_row hk ?_)
      simp only [Bool.false_eq_true, if_false]
      refine wpAny_bind (ofAClass_row hc ?_)
      simp only [Bool.false_eq_true, if_false]
      exact wpAny_pure ⟨rfl, rfl, rest'⟩
  · rintro ⟨r1, r2⟩ s' ⟨hr, rfl, _⟩
    simp only at hr
    subst hr
    exact wpAny_pure h
theorem hk_row : Hk (rowK P w) where
  seen := fun hk _ hy h => seen_row hk hy h
  hashBy := fun hk h => hashBy_row hk h
  same := fun {h h' k a b o es ep t} hb ho hd hs => by
    obtain ⟨o', items, n, ho', hc, hd', hi⟩ := hb
    have hne : b ≠ a := by
      rintro rfl
      obtain rfl : o' = o := Option.some.inj (ho'.symm.trans ho)
      rw [hd] at hd'
      exact nomatch hd'
    exact ⟨o', items, n, (hs.2 b hne).trans ho', hc, hd', hi⟩
  keep := fun ⟨o, items, n, ho, r⟩ k => ⟨o, items, n, k _ o ho, r⟩
/-- a tuple of texts as data -/
def encR (b : Addr × List Str) : PyData := .tuple (b.2.map .str)
theorem alike_strs : ∀ xs ys : List Str, PySem.W.alikeAll (xs.map .str) (ys.map .str) = true
  | [], _ => by simp [PySem.W.alikeAll]
  | _ :: _, [] => by simp [PySem.W.alikeAll]
  | x :: xs, y :: ys => by
    show PySem.W.alikeAll (.str x :: xs.map .str) (.str y :: ys.map .str) = true
    rw [PySem.W.alikeAll, alike_strs xs ys]
    simp [PySem.W.alike]
theorem depth_strs : ∀ xs : List Str, PyData.depthAll (xs.map .str) = 0
  | [] => by simp [PyData.depthAll]
  | x :: xs => by
    show PyData.depthAll (.str x :: xs.map .str) = 0
    rw [PyData.depthAll, depth_strs xs]
    simp [PyData.depth]
theorem alike_rows (bs : List (Addr × List Str)) : PySem.W.AllAlike (bs.map encR) := PySem.W.AllAlike.of fun b b' => by
  unfold encR
  rw [PySem.W.alike]
  exact alike_strs _ _
theorem sortable_rows {bs : List (Addr × List Str)} (h : ∀ b ∈ bs, b.2 ≠ []) : PySem.W.Sortable (bs.map encR) := .inl fun d hd => by
  obtain ⟨b, hb, rfl⟩ := List.mem_map.mp hd
  unfold encR
  cases q : b.2 with
  | nil => exact absurd q (h b hb)
  | cons x r => exact ⟨.str x, r.map .str, rfl⟩
theorem depth_row (b : Addr × List Str) : (encR b).depth ≤ 1 := by
  unfold encR
  rw [PyData.depth, depth_strs]
  exact Nat.le_refl _
theorem reads_all : ∀ {vs : List Value} {xs : List Str} (h : Heap), StrsAre vs xs → ReadsAll h vs (xs.map .str) []
  | _, _, h, .nil => .nil
  | _, _, h, .cons x t r => by
    have := ReadsAll.cons (Reads.str (h := h) x t) (reads_all h r)
    exact this
theorem reads_row {h : Heap} {a : Addr} {k : List Str} (x : IsR P w h k a) : ∃ as, Reads h (.ref a) (encR (a, k)) as := by
  obtain ⟨o, items, n, ho, hc, hd, hi⟩ := x
  exact ⟨[], Reads.tuple ho hc hd (reads_all h (items_str hi))⟩
theorem each_ref : ∀ bs : List (Addr × List Str), PySem.W.EachIs (fun v (b : Addr × List Str) => v = Value.ref b.1) (bs.map fun p => Value.ref p.1) bs
  | [] => .nil
  | _ :: bs => .cons rfl (each_ref bs)
theorem each_out : ∀ {out : List Value} {bs : List (Addr × List Str)}, PySem.W.EachIs (fun v (b : Addr × List Str) => v = Value.ref b.1) out bs → out = bs.map fun p => Value.ref p.1
  | _, _, .nil => rfl
  | _, _, .cons e r => by rw [e, each_out r]; rfl
theorem reads_row0 {h : Heap} {a : Addr} {k : List Str} (x : IsR P w h k a) : Reads h (.ref a) (encR (a, k)) [] := by
  obtain ⟨o, items, n, ho, hc, hd, hi⟩ := x
  exact Reads.tuple ho hc hd (reads_all h (items_str hi))
theorem each_reads0 {h : Heap} {c : Addr} : ∀ {bs : List (Addr × List Str)}, (∀ p ∈ bs, IsR P w h p.2 p.1) → PySem.W.EachIs (fun v b => ∃ as, Reads h v (encR b) as ∧ c ∉ as) (bs.map fun p => Value.ref p.1) bs
  | [], _ => .nil
  | b :: bs, x => .cons ⟨[], reads_row0 (x b List.mem_cons_self), by simp⟩ (each_reads0 fun p hp => x p (List.mem_cons_of_mem _ hp))
/-- what is a permutation of an image is the image of one -/
theorem perm_map {α β : Type} {f : α → β} {vs : List β} {L : List α} (p : vs.Perm (L.map f)) : ∃ L1 : List α, vs = L1.map f ∧ L1.Perm L := by
  generalize e : L.map f = us at p
  induction p generalizing L with
  | nil => exact ⟨[], rfl, by cases L with | nil => exact .nil | cons _ _ => cases e⟩
  | @cons x l1 l2 p ih =>
    cases L with
    | nil => cases e
    | cons y L =>
      obtain ⟨e1, e2⟩ := List.cons.inj e
      obtain ⟨L1, h1, h2⟩ := ih e2
      exact ⟨y :: L1, by rw [List.map_cons, e1, h1], h2.cons y⟩
  | swap x y l =>
    match L, e with
    | a :: b :: L, e =>
      obtain ⟨e1, e2⟩ := List.cons.inj e
      obtain ⟨e3, e4⟩ := List.cons.inj e2
      exact ⟨b :: a :: L, by rw [List.map_cons, List.map_cons, e1, e3, e4], .swap ..⟩
  | trans p1 p2 ih1 ih2 =>
    obtain ⟨L1, h1, h2⟩ := ih2 e
    obtain ⟨L2, h3, h4⟩ := ih1 h1.symm
    exact ⟨L2, h3, h4.trans h2⟩
theorem items_of_strs : ∀ {k : List Str} {us : List Value}, Vals (k.map V.str) us → ItemsAre (PySem.strKind P w) k us
  | [], _, r => by cases r; exact .nil
  | x :: k, _, r => by
    cases r with
    | cons h t =>
      obtain ⟨tk, rfl⟩ := h
      exact .cons (beq_self_eq_true x) (items_of_strs t)
theorem each_reads {h : Heap} : ∀ {bs : List (Addr × List Str)}, (∀ p ∈ bs, IsR P w h p.2 p.1) → PySem.W.EachIs (fun v b => ∃ as, Reads h v (encR b) as) (bs.map fun p => Value.ref p.1) bs
  | [], _ => .nil
  | b :: bs, x => .cons (reads_row (x b List.mem_cons_self)) (each_reads fun p hp => x p (List.mem_cons_of_mem _ hp))
/-- rows in order -/
def leR (a b : Addr × List Str) : Bool := PySem.W.dataLe false encR a b
theorem leR_eq : PySem.W.dataLe false encR = leR := rfl
theorem total_leR : PySem.W.TotalLe leR := by
  unfold leR PySem.W.dataLe
  exact PySem.W.sortLe_total _ _ _
theorem pair_leR (l : List (Addr × List Str)) : (l.mergeSort leR).Pairwise fun a b => leR a b = true :=
  List.pairwise_mergeSort total_leR.trans (fun a b => Bool.or_eq_true_iff.mpr (total_leR.total a b)) l
/-- the set at a, without its members -/
structure SetK0 (P : Program) (w : World) (h : Heap) (a : Addr) (L : List (Addr × List Str)) : Prop where
  ex : ∃ (es : Array (Int × Value)) (ep : Nat) (t : SetTable), (∃ o, h.get? a = some o ∧ o.ExactSet ∧ o.data = .set es ep t) ∧ es.toList = rowsK (rowK P w) L ∧ TabOk t (L.map fun p => (rowK P w).hash p.2) ∧ (L.map (·.2)).Nodup ∧
    (w.params.followText "set-order" = true ∨ t.led = true) ∧ L.length * 5 < t.mask * 3 ∧ L.length < 64
def SetRO (P : Program) (w : World) (a : Addr) (L : List (Addr × List Str)) : HO := .ext fun h => SetK0 P w h a L
theorem SetKR.t0 {h : Heap} {a : Addr} {L : List (Addr × List Str)} {es : Array (Int × Value)} {ep : Nat} {t : SetTable} (R : SetKR (rowK P w) h a L es ep t) : SetK0 P w h a L :=
  ⟨es, ep, t, R.ob, R.rows, R.tab, R.nd, R.led, R.room, R.few⟩
theorem SetK0.full {h : Heap} {a : Addr} {L : List (Addr × List Str)} (R : SetK0 P w h a L) (ht : ∀ p ∈ L, IsR P w h p.2 p.1) : ∃ es ep t, SetKR (rowK P w) h a L es ep t := by
  obtain ⟨es, ep, t, a1, a2, a3, a4, a6, a7, a8⟩ := R
  exact ⟨es, ep, t, a1, a2, a3, a4, ht, a6, a7, a8⟩
theorem setRO_new {H : Hp} {h : Heap} {a : Addr} {L : List (Addr × List Str)} (R : SetK0 P w h a L) : ObjOk P w H h a (SetRO P w a L) := by
  refine ⟨R, ?_, fun h1 h2 r k => ?_⟩
  · obtain ⟨_, _, _, ⟨o, ho, _⟩, _⟩ := R
    exact ⟨o, ho⟩
  · obtain ⟨es, ep, t, ⟨o, ho, r1⟩, r2⟩ := r
    exact ⟨es, ep, t, ⟨o, k o ho, r1⟩, r2⟩
theorem setR_list {l : Addr} {items : Array Value} (ks : List (Addr × List Str)) (D : List (List Str)) {Q : Value → Shared → Prop} (hh : A.handled = none) (hl : s.heap.IsList l items) (hit : items.toList = ks.map fun p => Value.ref p.1)
    (hk : ∀ p ∈ ks, IsR P w s.heap p.2 p.1) (hD : D.length < 64) (hkD : ∀ p ∈ ks, p.2 ∈ D) (hu : A.units + 3 < cLine)
    (h : ∀ (h' : Heap) (tk : Nat) (L : List (Addr × List Str)), SetK0 P w h' s.heap.objs.size L → GotK ks ks.length L → (∀ b o, s.heap.get? b = some o → h'.get? b = some o) → Q (.ref s.heap.objs.size) { s with heap := h', toks := tk }) :
    wpAny (model P w) A (call (.type "set") [.ref l]) Q E s := by
  have hisz : items.size = ks.length := by
    have q := congrArg List.length hit
    rw [Array.length_toList, List.length_map] at q
    exact q
  have hval : ∀ (i : Nat) (v : Value), items[i]? = some v → ∃ p, ks[i]? = some p ∧ v = .ref p.1 := fun i v hv => by
    have q : items.toList[i]? = some v := by rw [Array.getElem?_toList]; exact hv
    rw [hit, List.getElem?_map] at q
    cases hq : ks[i]? with
    | none => rw [hq] at q; cases q
    | some p =>
      rw [hq] at q
      exact ⟨p, rfl, (Option.some.inj q).symm⟩
  have none_of : ∀ b, s.heap.objs.size ≤ b → s.heap.get? b = none := fun b hb => by
    cases q : s.heap.get? b with
    | none => rfl
    | some o => exact absurd (Nat.lt_of_lt_of_le (Heap.lt_size q) hb) (Nat.lt_irrefl _)
  refine set_of_list (D := fun h' => ∃ L, SetK0 P w h' s.heap.objs.size L ∧ GotK ks ks.length L) hh hl (fun A' I s1 R eu e1 eI W hSf st0 hf k => ?_) (fun h' tk ⟨L, a1, a2⟩ hk' => h h' tk L a1 a2 hk')
  refine set_updateK hk_row W s.heap.objs.size hSf ks hisz D hD hkD hval s.heap hk (none_of _ (Nat.le_refl _)) (fun b hb => none_of b (by rw [List.mem_singleton.mp hb, eI]; exact Nat.le_succ _)) (show A'.in1.units < cLine by rw [eu]; exact hu) (items.size - 0) 0 s1 (by omega) (Nat.zero_le _) st0
    (fun b o e => by rw [e1]; exact Heap.get?_push_of_some _ (Heap.get?_push_of_some _ e)) ⟨[], #[], 0, _, setKR_fresh hf, GotK.zero ks⟩ (fun s' L es ep t hm hS' g' _ => k s' hm ⟨L, hS'.t0, by rw [hisz] at g'; exact g'⟩)
theorem sorted_setR {a : Addr} {L : List (Addr × List Str)} {es : Array (Int × Value)} {ep : Nat} {t : SetTable} {Q : Value → Shared → Prop} (R : SetKR (rowK P w) s.heap a L es ep t) (hh : A.handled = none) (hne : ∀ p ∈ L, p.2 ≠ []) (hu : A.units + 4 < cLine)
    (hQ : ∀ s' p (out : Array Value) (c : Nat) (L' : List (Addr × List Str)), (∀ b o, s.heap.get? b = some o → s'.heap.get? b = some o) → s'.gens = s.gens → s'.os = s.os → s.heap.objs.size ≤ p →
      s'.heap.get? p = some (seqObj "list" out c) → out.toList = L'.map (fun q => Value.ref q.1) → L'.Perm L → (L'.Pairwise fun a b => leR a b = true) → Q (.ref p) s') :
    wpAny (model P w) A (call (.builtin "sorted") [.ref a]) Q E s := by
  obtain ⟨o, ho, hex, hd⟩ := R.ob
  have hsz := R.size
  have hfew := R.few
  refine Calls.call_function_entry kind_sorted plain_sorted entry_sorted (args_sorted1 _) ?_
  unfold Builtin.«sorted»
  refine wpAny_bind (m := checkCount "sorted" 1 1 _) (wpAny_pure ?_)
  refine wpAny_bind (collect_set (A := A.in1) hh ⟨o, ho, hex.1, hd⟩ R.fits (by unfold scanBound; omega) R.tab.ris R.led fun s1 vs k1 hz g1 o1 pm => ?_)
  have hes : es.toList.map (·.2) = L.map fun q => Value.ref q.1 := by
    rw [R.rows]
    unfold rowsK
    rw [List.map_map]
    rfl
  rw [hes] at pm
  obtain ⟨L1, e1, pL1⟩ := perm_map (f := fun q : Addr × List Str => Value.ref q.1) pm
  have hvl : vs.length < 64 := by rw [pm.length_eq, List.length_map]; exact hfew
  refine wpAny_bind (wpAny_newList ?_ (by rw [sizeLine_eq]; omega))
  have hoL : (s1.heap.push (seqObj "list" vs.toArray 0)).get? s1.heap.objs.size = some (seqObj "list" vs.toArray 0) := Heap.get?_push_size _ rfl
  have tk : ∀ q ∈ L1, IsR P w (s1.heap.push (seqObj "list" vs.toArray 0)) q.2 q.1 := fun q hq => hk_row.keep (R.tup q (pL1.mem_iff.mp hq)) fun b u e => Heap.get?_push_of_some _ (k1 b u e)
  have er : PySem.W.EachIs (fun v b => ∃ as, Reads (s1.heap.push (seqObj "list" vs.toArray 0)) v (encR b) as ∧ s1.heap.objs.size ∉ as) (L1.map fun q => Value.ref q.1) L1 := each_reads0 (P := P) (w := w) tk
  rw [← e1] at er
  refine wpAny_bind (wpAny_holding (PySem.W.list_sort_data (s := { s1 with heap := s1.heap.push (seqObj "list" vs.toArray 0) }) (R := fun v (b : Addr × List Str) => v = Value.ref b.1) (enc := encR) (bs := L1) hoL (by rw [e1]; exact each_ref L1) er (alike_rows _) (sortable_rows fun b hb => hne b (pL1.mem_iff.mp hb)) (by rw [pL1.length_eq, sizeLine_eq]; omega) (fun b _ => ?_) fun out a1 a2 => ?_))
  · have := depth_row b
    show A.units + 1 + 1 + (encR b).depth < cLine
    omega
  have eo := each_out a2
  obtain ⟨c, hc⟩ := sortedHeap_at (vs := vs) (out := out.toArray) hoL
  refine wpAny_pure ⟨_, rfl, hQ _ s1.heap.objs.size out.toArray c _ (fun b u e => ?_) g1 o1 hz hc (by rw [List.toList_toArray]; exact eo) ((List.mergeSort_perm _ _).trans pL1) (pair_leR L1)⟩
  have q := k1 b u e
  have hlt := Heap.lt_size q
  show (sortedHeap (s1.heap.push (seqObj "list" vs.toArray 0)) s1.heap.objs.size vs _).get? b = some u
  rw [sortedHeap_old (Nat.ne_of_lt hlt) (by rw [size_push']; exact Nat.lt_succ_of_lt hlt)]
  exact Heap.get?_push_of_some _ q
end
section
variable {X : Cx}
theorem Inv.isR {pins : List (Addr × Obj)} {σ : L2.St} {H : Hp} {s : Shared} {b : Addr} {k : List Str} (I : L2.Inv X pins σ H s) (h : H b = some (.tup (k.map V.str))) : IsR X.prog X.w s.heap k b := by
  obtain ⟨_, its, rv, o, h1, h2, n, h3⟩ := I.hok b _ h
  exact ⟨o, its.toArray, n, h1, h2, h3, by simpa using items_of_strs rv⟩
theorem refs_valsR : ∀ {ks : List (Addr × List Str)} {us : List Value}, Vals (ks.map fun p => V.ref p.1) us → us = ks.map fun p => Value.ref p.1
  | [], _, r => by cases r; rfl
  | p :: ks, _, r => by
    cases r with
    | cons h t =>
      cases h
      rw [refs_valsR t]
      rfl
theorem vals_refsR : ∀ (ks : List (Addr × List Str)), Vals (ks.map fun p => V.ref p.1) (ks.map fun p => Value.ref p.1)
  | [] => .nil
  | _ :: ks => .cons rfl (vals_refsR ks)
/-- set(xs), xs a list of tuples of texts, of few that differ -/
def rSetR (K : PySem.W.Frag) (P : Program) (w : World) : List V → Hp → VK → Prop := fun xs H Q => ∃ (l : Addr) (ks : List (Addr × List Str)) (D : List (List Str)), xs = [V.ref l] ∧ SqL K H l (ks.map fun p => V.ref p.1) ∧ (∀ p ∈ ks, H p.1 = some (.tup (p.2.map V.str))) ∧ D.length < 64 ∧ (∀ p ∈ ks, p.2 ∈ D) ∧
  ∀ a L, H a = none → (∀ p ∈ L, p ∈ ks) → (∀ p ∈ ks, p.2 ∈ L.map (·.2)) → (L.map (·.2)).Nodup → Q (.ref a) (upd H a (SetRO P w a L))
theorem cr_setR (hc : X.calm = true) (hu : X.A.units + 64 < cLine) : CallR X (.type "set") (rSetR X.K X.prog X.w) := by
  intro pins s σ H vs us Q I r h
  obtain ⟨l, ks, D, rfl, hq, ht, hD, hkD, q⟩ := h
  rw [Vals.ref1 r]
  obtain ⟨its, rv, hl, hz⟩ := I.list hq
  refine setR_list ks D (I.ok.hd hc) hl.isList (by simpa using refs_valsR rv) (fun p hp => Inv.isR I (ht p hp)) hD hkD (by omega) fun h' tk L R g k => ?_
  have hn := I.hok.fresh (Nat.le_refl s.heap.objs.size)
  refine ⟨.ref _, _, I.laid (t' := tk) k (Nat.le_refl _) (setRO_new R), rfl, q _ L hn (fun p hp => List.mem_of_mem_take (g.sub p hp)) (fun p hp => g.all p (by rw [List.take_length]; exact hp)) ?_⟩
  obtain ⟨_, _, _, _, _, _, nd, _⟩ := R
  exact nd
/-- sorted(found): a new list of the same -/
def rSortR (P : Program) (w : World) : List V → Hp → VK → Prop := fun vs H Q => ∃ (a : Addr) (L : List (Addr × List Str)), vs = [V.ref a] ∧ H a = some (SetRO P w a L) ∧ (∀ p ∈ L, H p.1 = some (.tup (p.2.map V.str)) ∧ p.2 ≠ []) ∧
  ∀ (L' : List (Addr × List Str)) (p : Addr), L'.Perm L → (L'.Pairwise fun a b => leR a b = true) → H p = none → Q (.ref p) (upd H p (.lst (L'.map fun q => V.ref q.1)))
theorem cr_sortR (hc : X.calm = true) (hu : X.A.units + 64 < cLine) : CallR X (.builtin "sorted") (rSortR X.prog X.w) := by
  intro pins s σ H vs us Q I r h
  obtain ⟨a, L, rfl, ha, ht, q⟩ := h
  rw [Vals.ref1 r]
  have R0 : SetK0 X.prog X.w s.heap a L := (I.hok a _ ha).1
  obtain ⟨es, ep, t, R⟩ := R0.full fun p hp => Inv.isR I (ht p hp).1
  refine sorted_setR R (I.ok.hd hc) (fun p hp => (ht p hp).2) (by omega) fun s' p out c L' k g o hp hg hi pm ps => ?_
  have hlen : (L'.map fun q => V.ref q.1).length ≤ sizeLine := by
    rw [List.length_map, pm.length_eq, sizeLine_eq]
    have := R.few
    omega
  have hn : H p = none := I.hok.fresh hp
  have J : L2.Inv X pins σ (upd H p (.lst (L'.map fun q => V.ref q.1))) { s with heap := s'.heap, gens := s'.gens, drawn := s'.drawn, toks := s'.toks } :=
    I.call (ch := []) (Un.laid k hp hn) (I.hok.laid k hp ⟨hlen, out.toList, c, by rw [hi]; exact vals_refsR L', hg⟩) (by rw [g]; exact I.bare) (fun _ z => nomatch z)
  have e : s' = { s with heap := s'.heap, gens := s'.gens, drawn := s'.drawn, toks := s'.toks } := by
    cases s'
    cases s
    cases o
    rfl
  rw [e]
  exact ⟨.ref p, _, J, rfl, q L' p pm ps hn⟩
/-- sorted(xs), xs a list of tuples of texts: a new list of the same -/
def rSortLR (K : PySem.W.Frag) : List V → Hp → VK → Prop := fun vs H Q => ∃ (a : Addr) (L : List (Addr × List Str)), vs = [V.ref a] ∧ SqL K H a (L.map fun q => V.ref q.1) ∧ (∀ p ∈ L, H p.1 = some (.tup (p.2.map V.str)) ∧ p.2 ≠ []) ∧
  ∀ p : Addr, H p = none → Q (.ref p) (upd H p (.lst ((L.mergeSort leR).map fun q => V.ref q.1)))
theorem cr_sortLR (hu : X.A.units + 64 < cLine) : CallR X (.builtin "sorted") (rSortLR X.K) := by
  intro pins s σ H vs us Q I r h
  obtain ⟨a, L, rfl, hs, ht, q⟩ := h
  rw [Vals.ref1 r]
  obtain ⟨its, rv, hl, hz⟩ := I.list hs
  have e := refs_valsR rv
  refine PySem.W.sorted_data (R := fun v (b : Addr × List Str) => v = Value.ref b.1) (enc := encR) (bs := L) (vs := its) hl.isList (by rw [e]; exact each_ref L) (by rw [e]; exact each_reads (P := X.prog) (w := X.w) fun p hp => Inv.isR I (ht p hp).1) (alike_rows _) (sortable_rows fun b hb => (ht b hb).2) (by rw [List.length_map] at hz; exact hz) (fun b _ => ?_) fun out a1 a2 => ?_
  · have := depth_row b
    omega
  obtain ⟨ep, he'⟩ := PyProof.Rows.sortedAll_at s.heap its out.toArray
  have eo := each_out a2
  have pm : (L.mergeSort (PySem.W.dataLe false encR)).Perm L := List.mergeSort_perm _ _
  have hlen : ((L.mergeSort (PySem.W.dataLe false encR)).map fun q => V.ref q.1).length ≤ sizeLine := by
    rw [List.length_map, pm.length_eq]
    rw [List.length_map] at hz
    exact hz
  exact ⟨.ref (s.heap.objs.size + 1), upd H (s.heap.objs.size + 1) (.lst ((L.mergeSort (PySem.W.dataLe false encR)).map fun q => V.ref q.1)), I.laid (t' := s.toks) (fun _ _ => PyProof.Rows.sortedAll_old) (Nat.le_succ _) ⟨hlen, out, ep, by rw [eo]; exact vals_refsR _, he'⟩, rfl, q _ (I.hok.fresh (Nat.le_succ _))⟩
end
end Lg
/-! Lg26 -/
set_option maxHeartbeats 1000000
namespace Lg
open PySem PySem.Spec PyProof.Rows L2
/-- the key: a tuple of rows -/
def mkey (rows : List (List Str)) : NestedKey := .tup (rows.map fun r => .tup (r.map .text))
theorem depth_texts : ∀ r : List Str, NestedKey.depthAll (r.map .text) = 0
  | [] => by simp [NestedKey.depthAll]
  | x :: r => by
    show NestedKey.depthAll (.text x :: r.map .text) = 0
    rw [NestedKey.depthAll, depth_texts r]
    simp [NestedKey.depth]
theorem depth_rows : ∀ rows : List (List Str), NestedKey.depthAll (rows.map fun r => .tup (r.map .text)) ≤ 1
  | [] => by simp [NestedKey.depthAll]
  | r :: rows => by
    show NestedKey.depthAll (.tup (r.map .text) :: rows.map fun r => .tup (r.map .text)) ≤ 1
    rw [NestedKey.depthAll, NestedKey.depth, depth_texts]
    have := depth_rows rows
    omega
theorem depth_mkey (rows : List (List Str)) : (mkey rows).depth ≤ 8 := by
  unfold mkey
  rw [NestedKey.depth]
  have := depth_rows rows
  omega
theorem text_inj : ∀ {a b : List Str}, a.map NestedKey.text = b.map NestedKey.text → a = b := fun h => (List.map_inj_right fun x y e => by injection e).mp h
theorem mkey_inj {a b : List (List Str)} (h : mkey a = mkey b) : a = b := by
  unfold mkey at h
  injection h with h
  exact (List.map_inj_right fun x y e => by injection e with e; exact text_inj e).mp h
/-- at a stands the tuple of the rows ks -/
def MatAt (H : Hp) (a : Addr) (ks : List (Addr × List Str)) : Prop := H a = some (.tup (ks.map fun p => V.ref p.1)) ∧ ∀ p ∈ ks, H p.1 = some (.tup (p.2.map V.str))
theorem MatAt.same {H H' : Hp} {a : Addr} {ks : List (Addr × List Str)} (h : MatAt H a ks) (s : Same H H') : MatAt H' a ks := ⟨s _ _ h.1, fun p hp => s _ _ (h.2 p hp)⟩
abbrev NE := List (List Str) × Addr × V
def NEv (p : NE) (q : NestedKey × Addr × Value) : Prop := q.1 = mkey p.1 ∧ p.2.1 = q.2.1 ∧ RelV p.2.2 q.2.2
/-- the dict at d, without its keys -/
structure DN0 (P : Program) (w : World) (h : Heap) (d : Addr) (xs : List NE) : Prop where
  z : xs.length ≤ sizeLine
  lo : (d == sysModules) = false
  ex : ∃ us : List (NestedKey × Addr × Value), Paired NEv xs us ∧ ∃ o es ep, h.get? d = some o ∧ o.ExactDict ∧ o.data = .dict es ep ∧ es.toList = us.map (entryOfKey (nestedKind P w)) ∧ (us.map (·.1)).Nodup
def DNO (P : Program) (w : World) (d : Addr) (xs : List NE) : HO := .ext fun h => DN0 P w h d xs
/-- its keys -/
def KeysOk (H : Hp) (xs : List NE) : Prop := ∀ x ∈ xs, ∃ ks : List (Addr × List Str), x.1 = ks.map (·.2) ∧ MatAt H x.2.1 ks
theorem KeysOk.same {H H' : Hp} {xs : List NE} (h : KeysOk H xs) (s : Same H H') : KeysOk H' xs := fun x hx => by
  obtain ⟨ks, e, m⟩ := h x hx
  exact ⟨ks, e, m.same s⟩
def atN (xs : List NE) (rows : List (List Str)) : Option V := (xs.find? fun x => decide (x.1 = rows)).map (·.2.2)
theorem dno_ok {P : Program} {w : World} {H : Hp} {h : Heap} {d : Addr} {xs : List NE} (R : DN0 P w h d xs) : ObjOk P w H h d (DNO P w d xs) := by
  refine ⟨R, ?_, fun h1 h2 r k => ?_⟩
  · obtain ⟨_, _, o, _, _, ho, _⟩ := R.ex
    exact ⟨o, ho⟩
  · obtain ⟨us, pr, o, es, ep, ho, r2⟩ := r.ex
    exact ⟨r.z, r.lo, us, pr, o, es, ep, k o ho, r2⟩
section
variable {X : Cx} {pins : List (Addr × Obj)} {σ : L2.St} {H : Hp} {s : Shared}
theorem nested_text {h : Heap} : ∀ {r : List Str} {us : List Value}, Vals (r.map V.str) us → NestedAll h (r.map .text) us
  | [], _, v => by cases v; exact .nil
  | x :: r, _, v => by
    cases v with
    | cons e t =>
      obtain ⟨tk, rfl⟩ := e
      exact .cons (.text x tk) (nested_text t)
theorem nested_row (I : L2.Inv X pins σ H s) {a : Addr} {r : List Str} (e : H a = some (.tup (r.map V.str))) : NestedIs s.heap (.tup (r.map .text)) (.ref a) := by
  obtain ⟨_, its, rv, o, h1, h2, n, h3⟩ := I.hok a _ e
  exact .tup h1 h2 h3 (by simpa using nested_text rv)
theorem nested_rows (I : L2.Inv X pins σ H s) : ∀ {ks : List (Addr × List Str)} {us : List Value}, (∀ p ∈ ks, H p.1 = some (.tup (p.2.map V.str))) → Vals (ks.map fun p => V.ref p.1) us → NestedAll s.heap ((ks.map (·.2)).map fun r => .tup (r.map .text)) us
  | [], _, _, v => by cases v; exact .nil
  | p :: ks, _, h, v => by
    cases v with
    | cons e t =>
      cases e
      exact .cons (nested_row I (h p List.mem_cons_self)) (nested_rows I (fun q hq => h q (List.mem_cons_of_mem _ hq)) t)
theorem nested_mat (I : L2.Inv X pins σ H s) {a : Addr} {ks : List (Addr × List Str)} (m : MatAt H a ks) : (nestedKind X.prog X.w).is s.heap (mkey (ks.map (·.2))) a := by
  obtain ⟨_, its, rv, o, h1, h2, n, h3⟩ := I.hok a _ m.1
  exact ⟨.tup h1 h2 h3 (by simpa using nested_rows I m.2 rv), depth_mkey _⟩
theorem dn_full (I : L2.Inv X pins σ H s) {d : Addr} {xs : List NE} (e : H d = some (DNO X.prog X.w d xs)) (hk : KeysOk H xs) :
    xs.length ≤ sizeLine ∧ (d == sysModules) = false ∧ ∃ us, Paired NEv xs us ∧ s.heap.DictOfH (nestedKind X.prog X.w) d us := by
  obtain ⟨z, lo, us, pr, o, es, ep, h1, h2, h3, h4, h5⟩ := (I.hok d _ e).1
  refine ⟨z, lo, us, pr, o, es, ep, h1, h2, h3, h4, ?_, h5⟩
  have all : ∀ {l : List NE} {m : List (NestedKey × Addr × Value)}, Paired NEv l m → KeysOk H l → ∀ x ∈ m, (nestedKind X.prog X.w).is s.heap x.1 x.2.1 := by
    intro l m q
    induction q with
    | nil => intro _ x hx; exact nomatch hx
    | @cons p q ps qs hq t ih =>
      intro hl x hx
      rcases List.mem_cons.mp hx with e | hx
      · subst e
        obtain ⟨ks, e1, m⟩ := hl p List.mem_cons_self
        rw [hq.1, ← hq.2.1, e1]
        exact nested_mat I m
      · exact ih (fun x hx => hl x (List.mem_cons_of_mem _ hx)) x hx
  exact all pr hk
theorem at_rel {xs : List NE} {us : List (NestedKey × Addr × Value)} (pr : Paired NEv xs us) (rows : List (List Str)) : L2.RelO (atN xs rows) ((atKey us (mkey rows)).map (·.2)) := by
  induction pr with
  | nil => exact True.intro
  | @cons p q ps qs h t ih =>
    obtain ⟨h1, _, h2⟩ := h
    by_cases e : p.1 = rows
    · have e2 : q.1 = mkey rows := by rw [h1, e]
      have a1 : atN (p :: ps) rows = some p.2.2 := by unfold atN; rw [List.find?_cons_of_pos (by simp [e])]; rfl
      have a2 : atKey (q :: qs) (mkey rows) = some q.2 := by unfold atKey; rw [List.find?_cons_of_pos (by simp [e2])]; rfl
      rw [a1, a2]
      exact h2
    · have e2 : ¬ q.1 = mkey rows := fun z => e (mkey_inj (h1.symm.trans z))
      have a1 : atN (p :: ps) rows = atN ps rows := by unfold atN; rw [List.find?_cons_of_neg (by simp [e])]
      have a2 : atKey (q :: qs) (mkey rows) = atKey qs (mkey rows) := by unfold atKey; rw [List.find?_cons_of_neg (by simp [e2])]
      rw [a1, a2]
      exact ih
def tDNewN (P : Program) (w : World) : TE := fun _ H Q => ∀ p, H p = none → Q (.ref p) (upd H p (DNO P w p []))
theorem pe_dnewN {pos : Pos} : PE X (.Dict [] [] pos) (tDNewN X.prog X.w) := ⟨fun pins s σ H Q I h =>
  wpAny_Dict_empty ⟨.ref s.heap.objs.size, _, I.laid (a := s.heap.objs.size) (o := DNO X.prog X.w s.heap.objs.size []) (t' := s.toks) (fun _ _ q => Heap.get?_push_of_some _ q) (Nat.le_refl _)
    (dno_ok ⟨Nat.zero_le _, beq_eq_false_iff_ne.mpr (Ne.symm (Nat.ne_of_lt I.big)), [], .nil, _, #[], 0, Heap.get?_push_size _ rfl, ⟨rfl, rfl, rfl⟩, rfl, rfl, List.nodup_nil⟩), rfl, h _ (I.hok.fresh (Nat.le_refl _))⟩⟩
/-- k not in d -/
def rNotInN (P : Program) (w : World) : R2 := fun y x H Q => ∃ b d ks xs, y = .ref b ∧ x = .ref d ∧ MatAt H b ks ∧ H d = some (DNO P w d xs) ∧ KeysOk H xs ∧ Q (.bl (!(atN xs (ks.map (·.2))).isSome)) H
theorem op_notInN (hu : X.A.units + 64 < cLine) : OpR X (compareOp .NotIn) (rNotInN X.prog X.w) := by
  intro pins s σ H x y v u Q I rx ry h
  obtain ⟨b, d, ks, xs, rfl, rfl, m, hd, hk, q⟩ := h
  cases rx
  cases ry
  obtain ⟨z, lo, us, pr, dd⟩ := dn_full I hd hk
  refine wpAny_notIn_heap (show X.A.in1.units + 8 < cLine from Nat.lt_of_le_of_lt (show X.A.units + 1 + 8 ≤ X.A.units + 64 by omega) hu) (nested_mat I m) lo dd ?_
  have q2 := (at_rel pr (ks.map (·.2))).isSome_eq
  rw [Option.isSome_map] at q2
  rw [← q2]
  exact ⟨.bl _, H, I.tok _, rfl, q⟩
/-- d[k] -/
def rIxN (P : Program) (w : World) : R2 := fun x y H Q => ∃ b d ks xs v, y = .ref b ∧ x = .ref d ∧ MatAt H b ks ∧ H d = some (DNO P w d xs) ∧ KeysOk H xs ∧ atN xs (ks.map (·.2)) = some v ∧ Q v H
theorem ix_N (hu : X.A.units + 64 < cLine) : IxR X (rIxN X.prog X.w) := by
  intro value slice pins s σ H x y v u Q I rx ry h hs
  obtain ⟨b, d, ks, xs, z, rfl, rfl, m, hd, hk, hv, q⟩ := h
  cases rx
  cases ry
  obtain ⟨_, lo, us, pr, dd⟩ := dn_full I hd hk
  have rel := at_rel pr (ks.map (·.2))
  rw [hv] at rel
  obtain ⟨w', hw, rw'⟩ := L2.RelO.some_of (v := z) rel
  obtain ⟨p, hp, hp2⟩ := Option.map_eq_some_iff.mp hw
  refine subscriptTail_builtinR (x := w') dd.typeIs PySem.F.slot_dict_getitem.lookup (wpAny_getItem_heap (Q := fun r s' => r = w' ∧ EP X pins σ Q r s') (show X.A.in1.units + 8 < cLine from Nat.lt_of_le_of_lt (show X.A.units + 1 + 8 ≤ X.A.units + 64 by omega) hu) (nested_mat I m) dd hp ⟨hp2, ?_⟩) hs
  rw [hp2]
  exact ⟨z, H, I.tok _, rw', q⟩
/-- d[k] = v -/
def putN (xs : List NE) (rows : List (List Str)) (b : Addr) (v : V) : List NE := if (atN xs rows).isSome then xs.map (fun x => if x.1 = rows then (x.1, x.2.1, v) else x) else xs ++ [(rows, b, v)]
theorem length_putN (xs : List NE) (rows : List (List Str)) (b : Addr) (v : V) : (putN xs rows b v).length ≤ xs.length + 1 := by
  unfold putN
  split
  · rw [List.length_map]; omega
  · rw [List.length_append]; exact Nat.le_refl _
theorem put_map {rows : List (List Str)} {v : V} {u : Value} (rv : RelV v u) : ∀ {xs : List NE} {us : List (NestedKey × Addr × Value)}, Paired NEv xs us → Paired NEv (xs.map fun x => if x.1 = rows then (x.1, x.2.1, v) else x) (us.map (putAt (mkey rows) u))
  | _, _, .nil => .nil
  | p :: xs, q :: us, .cons h t => by
    refine .cons ?_ (put_map rv t)
    obtain ⟨h1, h2, h3⟩ := h
    unfold putAt
    show NEv (if p.1 = rows then (p.1, p.2.1, v) else p) _
    by_cases e : p.1 = rows
    · rw [if_pos e, if_pos (by rw [h1, e])]
      exact ⟨h1, h2, rv⟩
    · rw [if_neg e, if_neg (fun z => e (mkey_inj (h1.symm.trans z)))]
      exact ⟨h1, h2, h3⟩
theorem put_rel {xs : List NE} {us : List (NestedKey × Addr × Value)} (pr : Paired NEv xs us) (rows : List (List Str)) {b : Addr} {v : V} {u : Value} (rv : RelV v u) : Paired NEv (putN xs rows b v) (storedH us (mkey rows) b u) := by
  have e : (atN xs rows).isSome = (atKey us (mkey rows)).isSome := by
    rw [(at_rel pr rows).isSome_eq, Option.isSome_map]
  unfold putN storedH
  rw [e]
  by_cases q : (atKey us (mkey rows)).isSome = true
  · rw [if_pos q, if_pos q]; exact put_map rv pr
  · rw [if_neg q, if_neg q]; exact Paired.snoc pr ⟨rfl, rfl, rv⟩
def rSetN (P : Program) (w : World) : V → V → V → Hp → (Hp → Prop) → Prop := fun o i v H Q => ∃ b d ks xs, o = .ref d ∧ i = .ref b ∧ MatAt H b ks ∧ H d = some (DNO P w d xs) ∧ KeysOk H xs ∧ xs.length < sizeLine ∧ Q (upd H d (DNO P w d (putN xs (ks.map (·.2)) b v)))
theorem set_N (hu : X.A.units + 64 < cLine) : PSet X (rSetN X.prog X.w) := by
  intro pins s σ H o i v ov iv u Q I ro ri rv h
  obtain ⟨b, d, ks, xs, rfl, rfl, m, hd, hk, hl, q⟩ := h
  cases ro
  cases ri
  obtain ⟨z, lo, us, pr, dd⟩ := dn_full I hd hk
  have hz : us.length ≤ sizeLine := by rw [← Paired.length pr]; exact z
  refine wpAny_setItem_heap (hsz := hz) (show X.A.in1.units + 8 < cLine from Nat.lt_of_le_of_lt (show X.A.units + 1 + 8 ≤ X.A.units + 64 by omega) hu) (nested_mat I m) dd fun h' dd' hs => ?_
  obtain ⟨o, es, ep, ho, h2, h3, h4, _, h5⟩ := dd'
  have hl2 : (putN xs (ks.map (·.2)) b v).length ≤ sizeLine := by have := length_putN xs (ks.map (·.2)) b v; omega
  exact ⟨_, d_write (ob := DNO X.prog X.w d (putN xs (ks.map (·.2)) b v)) I (by rw [hd]; exact True.intro) hs ⟨o, ho⟩ (dno_ok ⟨hl2, lo, _, put_rel pr _ rv, o, es, ep, ho, h2, h3, h4, h5⟩), q⟩
end
end Lg
/-! Lg27 -/
set_option maxHeartbeats 1000000
namespace Lg
open PySem PySem.Spec PyProof.Rows
section
variable {prog : Program} {w : World} {A : Around} {E : Value → Shared → Prop} {s : Shared}
theorem typeCall_zipN : ∀ vs : List Value, 2 ≤ vs.length → vs.length ≤ 8 → checkTypeCall "zip" ⟨vs, []⟩ = pure ()
  | [_, _], _, _ => by kernel_rfl
  | [_, _, _], _, _ => by kernel_rfl
  | [_, _, _, _], _, _ => by kernel_rfl
  | [_, _, _, _, _], _, _ => by kernel_rfl
  | [_, _, _, _, _, _], _, _ => by kernel_rfl
  | [_, _, _, _, _, _, _], _, _ => by kernel_rfl
  | [_, _, _, _, _, _, _, _], _, _ => by kernel_rfl
  | [], h, _ => absurd h (by decide)
  | [_], h, _ => absurd h (by simp)
  | _ :: _ :: _ :: _ :: _ :: _ :: _ :: _ :: _ :: _, _, h => absurd h (by simp only [List.length_cons]; omega)
theorem newCall_zipN : ∀ vs : List Value, 2 ≤ vs.length → vs.length ≤ 8 → checkBuiltinCall "zip.__new__" ⟨.type "zip" :: vs, []⟩ = pure ()
  | [_, _], _, _ => by kernel_rfl
  | [_, _, _], _, _ => by kernel_rfl
  | [_, _, _, _], _, _ => by kernel_rfl
  | [_, _, _, _, _], _, _ => by kernel_rfl
  | [_, _, _, _, _, _], _, _ => by kernel_rfl
  | [_, _, _, _, _, _, _], _, _ => by kernel_rfl
  | [_, _, _, _, _, _, _, _], _, _ => by kernel_rfl
  | [], h, _ => absurd h (by decide)
  | [_], h, _ => absurd h (by simp)
  | _ :: _ :: _ :: _ :: _ :: _ :: _ :: _ :: _ :: _, _, h => absurd h (by simp only [List.length_cons]; omega)
theorem objInit_N (obj : Value) : ∀ vs : List Value, 2 ≤ vs.length → vs.length ≤ 8 → argsOk "object.__init__" ⟨obj :: vs, []⟩
  | [_, _], _, _ => by unfold argsOk; kernel_rfl
  | [_, _, _], _, _ => by unfold argsOk; kernel_rfl
  | [_, _, _, _], _, _ => by unfold argsOk; kernel_rfl
  | [_, _, _, _, _], _, _ => by unfold argsOk; kernel_rfl
  | [_, _, _, _, _, _], _, _ => by unfold argsOk; kernel_rfl
  | [_, _, _, _, _, _, _], _, _ => by unfold argsOk; kernel_rfl
  | [_, _, _, _, _, _, _, _], _, _ => by unfold argsOk; kernel_rfl
  | [], h, _ => absurd h (by decide)
  | [_], h, _ => absurd h (by simp)
  | _ :: _ :: _ :: _ :: _ :: _ :: _ :: _ :: _ :: _, _, h => absurd h (by simp only [List.length_cons]; omega)
/-- the iterators of the tuples ts, from N on -/
def ItsAt (h : Heap) (N : Nat) (ts : List Addr) : Prop := ∀ j t, ts[j]? = some t → h.get? (N + j) = some { cls := .type "tuple_iterator", data := .fields #[.ref t, .int 0 0] }
theorem drop_cons2 {α : Type} {l rest : List α} {x : α} {m : Nat} (h : x :: rest = l.drop m) : l[m]? = some x ∧ rest = l.drop (m + 1) := by
  have e : (l.drop m)[0]? = some x := by rw [← h]; rfl
  rw [List.getElem?_drop, Nat.add_zero] at e
  refine ⟨e, ?_⟩
  rw [← List.drop_drop, ← h]
  rfl
theorem iterAll_tups (ts : List Addr) (its : Addr → Array Value) (ht : ∀ t ∈ ts, s.heap.IsTuple t (its t)) {Q : List Value → Shared → Prop}
    (hQ : ∀ h', (∀ b o, s.heap.get? b = some o → h'.get? b = some o) → h'.objs.size = s.heap.objs.size + ts.length → ItsAt h' s.heap.objs.size ts → Q ((List.range ts.length).map fun j => .ref (s.heap.objs.size + j)) { s with heap := h' }) :
    wpAny (model prog w) A (Builtin.SmallTypes.iterAll (ts.map Value.ref)) Q E s := by
  unfold Builtin.SmallTypes.iterAll
  refine wpAny_bind ?_
  refine wpAny_forIn_list _ (fun rest (acc : Array Value) s' => ∃ m h', m ≤ ts.length ∧ rest = (ts.drop m).map Value.ref ∧ acc.toList = (List.range m).map (fun j => Value.ref (s.heap.objs.size + j)) ∧ s' = { s with heap := h' } ∧
    (∀ b o, s.heap.get? b = some o → h'.get? b = some o) ∧ h'.objs.size = s.heap.objs.size + m ∧ ItsAt h' s.heap.objs.size (ts.take m)) _ ?_ ?_ _ _ ⟨0, s.heap, Nat.zero_le _, rfl, rfl, rfl, fun _ _ e => e, rfl, fun j t h => by rw [List.take_zero] at h; cases h⟩
  · rintro x rest acc s' ⟨m, h', hm, hr, ha, rfl, hk, hsz, hI⟩
    have hlt : m < ts.length := by
      rcases Nat.lt_or_ge m ts.length with z | z
      · exact z
      · rw [List.drop_of_length_le z] at hr; cases hr
    have hd : ts.drop m = ts[m] :: ts.drop (m + 1) := List.drop_eq_getElem_cons hlt
    rw [hd, List.map_cons] at hr
    obtain ⟨rfl, rfl⟩ := List.cons.inj hr
    refine wpAny_bind (wpAny_holding ?_)
    have htt := ht ts[m] (List.getElem_mem hlt)
    refine wpAny_pyIter_tuple (s := { s with heap := h' }) (items := its ts[m]) (htt.at fun o e => hk _ o e) ?_
    refine wpAny_pure ⟨m + 1, _, hlt, rfl, ?_, rfl, fun b o e => Heap.get?_push_of_some _ (hk b o e), by rw [Heap.size_push, hsz]; rfl, fun j t hj => ?_⟩
    · rw [Array.toList_push, ha, List.range_succ, List.map_append]
      show _ ++ [Value.ref h'.objs.size] = _ ++ [Value.ref (s.heap.objs.size + m)]
      rw [hsz]
    · rw [List.getElem?_take] at hj
      by_cases c : j < m
      · rw [if_pos (Nat.lt_succ_of_lt c)] at hj
        exact Heap.get?_push_of_some _ (hI j t (by rw [List.getElem?_take, if_pos c]; exact hj))
      · by_cases e : j < m + 1
        · rw [if_pos e] at hj
          obtain rfl : j = m := Nat.le_antisymm (Nat.le_of_lt_succ e) (Nat.not_lt.mp c)
          have et : ts[j] = t := by rw [List.getElem?_eq_getElem hlt] at hj; exact Option.some.inj hj
          rw [← et, ← hsz]
          exact Heap.get?_push_size _ rfl
        · rw [if_neg e] at hj; cases hj
  · rintro acc s' ⟨m, h', hm, hr, ha, rfl, hk, hsz, hI⟩
    have hml : m = ts.length := by
      have e := congrArg List.length hr
      rw [List.length_map, List.length_drop] at e
      simp only [List.length_nil] at e
      omega
    subst hml
    rw [List.take_length] at hI
    refine wpAny_pure ?_
    rw [ha]
    exact hQ h' hk hsz hI
theorem zipN_begins (ts : List Addr) (its : Addr → Array Value) (h2 : 2 ≤ ts.length) (h8 : ts.length ≤ 8) (ht : ∀ t ∈ ts, s.heap.IsTuple t (its t)) {Q : Value → Shared → Prop}
    (hQ : ∀ h', (∀ b o, s.heap.get? b = some o → h'.get? b = some o) → h'.objs.size = s.heap.objs.size + ts.length + 3 → ItsAt h' s.heap.objs.size ts → IsTN h' (s.heap.objs.size + ts.length) ((List.range ts.length).map fun j => .ref (s.heap.objs.size + j)) →
      IsTN h' (s.heap.objs.size + ts.length + 1) (ts.map fun _ => .none) → IsZN h' (s.heap.objs.size + ts.length + 2) (s.heap.objs.size + ts.length) (s.heap.objs.size + ts.length + 1) .none false → Q (.ref (s.heap.objs.size + ts.length + 2)) { s with heap := h' }) :
    wpAny (model prog w) A (call (.type "zip") (ts.map Value.ref)) Q E s := by
  have hl : (ts.map Value.ref).length = ts.length := List.length_map ..
  refine callType_newIn F.called_zip (by decide) (typeCall_zipN _ (by rw [hl]; exact h2) (by rw [hl]; exact h8)) (newCall_zipN _ (by rw [hl]; exact h2) (by rw [hl]; exact h8)) (fun obj => objInit_N obj _ (by rw [hl]; exact h2) (by rw [hl]; exact h8)) F.entry_zip_new
    (S := fun A R s => (∀ t ∈ ts, s.heap.IsTuple t (its t)) ∧ ∀ h', (∀ b o, s.heap.get? b = some o → h'.get? b = some o) → h'.objs.size = s.heap.objs.size + ts.length + 3 → ItsAt h' s.heap.objs.size ts → IsTN h' (s.heap.objs.size + ts.length) ((List.range ts.length).map fun j => .ref (s.heap.objs.size + j)) →
      IsTN h' (s.heap.objs.size + ts.length + 1) (ts.map fun _ => .none) → IsZN h' (s.heap.objs.size + ts.length + 2) (s.heap.objs.size + ts.length) (s.heap.objs.size + ts.length + 1) .none false → R (.ok (.ret (.ref (s.heap.objs.size + ts.length + 2)))) { s with heap := h' })
    (.of_wp fun A R s ⟨ht, h⟩ => ?_) ⟨ht, fun h' a1 a2 a3 a4 a5 a6 => ⟨⟨_, a6, rfl⟩, hQ h' a1 a2 a3 a4 a5 a6⟩⟩
  have hsub := sub_zip
  unfold Builtin.«zip.__new__»
  generalize hIA : Builtin.SmallTypes.iterAll = IA
  wp_walk
  subst hIA
  refine iterAll_tups ts its ht fun h1 k1 z1 I1 => ?_
  have hrl : ((List.range ts.length).map fun j => Value.ref (s.heap.objs.size + j)).length = ts.length := by rw [List.length_map, List.length_range]
  refine wpAny_bind (wpAny_newTuple ?_ (by rw [hrl, sizeLine_eq]; omega))
  refine wpAny_bind (wpAny_newTuple ?_ (by rw [List.length_map, hrl, sizeLine_eq]; omega))
  have en : ((List.range ts.length).map fun j => Value.ref (s.heap.objs.size + j)).map (fun _ => Value.none) = ts.map fun _ => .none := by
    rw [List.map_map]
    refine List.ext_getElem (by rw [List.length_map, List.length_map, List.length_range]) fun i a b => ?_
    rw [List.getElem_map, List.getElem_map]
    rfl
  rw [en]
  have z2 := Heap.size_push h1 { cls := .type "tuple", data := .seq ((List.range ts.length).map fun j => Value.ref (s.heap.objs.size + j)).toArray }
  have gT := Heap.get?_push_size h1 (o := { cls := .type "tuple", data := .seq ((List.range ts.length).map fun j => Value.ref (s.heap.objs.size + j)).toArray }) rfl
  have k2 : ∀ b o, h1.get? b = some o → (h1.push { cls := .type "tuple", data := .seq ((List.range ts.length).map fun j => Value.ref (s.heap.objs.size + j)).toArray }).get? b = some o := fun b o e => Heap.get?_push_of_some _ e
  dsimp only
  generalize h1.push { cls := .type "tuple", data := .seq ((List.range ts.length).map fun j => Value.ref (s.heap.objs.size + j)).toArray } = g2 at z2 gT k2 ⊢
  have z3 := Heap.size_push g2 { cls := .type "tuple", data := .seq (ts.map fun _ => Value.none).toArray }
  have gO := Heap.get?_push_size g2 (o := { cls := .type "tuple", data := .seq (ts.map fun _ => Value.none).toArray }) rfl
  have k3 : ∀ b o, g2.get? b = some o → (g2.push { cls := .type "tuple", data := .seq (ts.map fun _ => Value.none).toArray }).get? b = some o := fun b o e => Heap.get?_push_of_some _ e
  generalize g2.push { cls := .type "tuple", data := .seq (ts.map fun _ => Value.none).toArray } = g3 at z3 gO k3 ⊢
  refine wpAny_bind ?_
  unfold Builtin.SmallTypes.newRecord
  refine wpAny_newObj_type ?_ (by first | exact True.intro | (show 5 ≤ sizeLine; rw [sizeLine_eq]; decide) | (simp only [sizeOk]; unfold Builtin.SmallTypes.ownedTupleFields; rw [sizeLine_eq]; simp))
  refine wpAny_pure ⟨_, rfl, ?_⟩
  have e2 : h1.objs.size = s.heap.objs.size + ts.length := z1
  have e3 : g2.objs.size = s.heap.objs.size + ts.length + 1 := by rw [z2, e2]
  have e4 : g3.objs.size = s.heap.objs.size + ts.length + 2 := by rw [z3, e3]
  rw [e2] at gT
  rw [e3] at gO
  dsimp only
  rw [e2, e3, e4]
  refine h _ (fun b o e => Heap.get?_push_of_some _ (k3 _ _ (k2 _ _ (k1 b o e)))) (by rw [Heap.size_push, e4]) (fun j t hj => Heap.get?_push_of_some _ (k3 _ _ (k2 _ _ (I1 j t hj)))) (Heap.get?_push_of_some _ (k3 _ _ gT)) (Heap.get?_push_of_some _ gO) ?_
  rw [← e4]
  exact Heap.get?_push_size _ rfl
end
end Lg
/-! Lg28 -/
set_option maxHeartbeats 1000000
namespace Lg
open PySem PySem.Spec PyProof.Rows
theorem zip_no_len : typeLookup (.type "zip") "__len__" = pure none := by rw [typeLookup_type, builtinLookup_eq_fast]; kernel_rfl
theorem zip_no_hint : typeLookup (.type "zip") "__length_hint__" = pure none := by rw [typeLookup_type, builtinLookup_eq_fast]; kernel_rfl
section
variable {prog : Program} {w : World} {A : Around} {E : Value → Shared → Prop} {s : Shared} {z TI TO S : Addr} {its : List Addr} {fp : Nat → List Addr} {n i : Nat} {P : Nat → Nat → Value → Prop} {St : Nat → Nat → Heap → Prop}
/-- what stands apart from the list at S -/
theorem zst_but {h h' : Heap} (D : ∀ j a, its[j]? = some a → Draws prog w A a (fp j) n (P j) (St j)) (st : ZSt z TI TO S its St i h) (hz : S ≠ z) (hTI : S ≠ TI) (hTO : S ≠ TO) (hf : ∀ j, j < its.length → S ∉ fp j) (k : ∀ b o, b ≠ S → h.get? b = some o → h'.get? b = some o) : ZSt z TI TO S its St i h' := by
  obtain ⟨a1, a2, a3⟩ := st
  refine ⟨k _ _ hTI.symm a1, fun j hj => (D j its[j] (List.getElem?_eq_getElem hj)).frame i h h' (a2 j hj) fun b hb o e => k b o (fun q => hf j hj (by rw [← q]; exact hb)) e, ?_⟩
  rcases a3 with ⟨b1, os, b2, b3⟩ | ⟨T, b, oT, b1, b2, b3, b4, b5⟩
  · exact .inl ⟨k _ _ hz.symm b1, os, k _ _ hTO.symm b2, b3⟩
  · exact .inr ⟨T, b, oT, k _ _ hz.symm b1, k _ _ b5 b2, b3, b4, b5⟩
/-- the tuples put in so far -/
structure Put (P : Nat → Nat → Value → Prop) (m L : Nat) (h : Heap) (z TO S : Addr) (its as : List Addr) : Prop where
  rise : as.Pairwise (· < ·)
  low : ∀ a ∈ as, L ≤ a
  high : ∀ a ∈ as, a < h.objs.size
  apart : ∀ a ∈ as, a ≠ z ∧ a ≠ TO ∧ a ∉ its ∧ a ≠ S
  tup : ∀ j a, as[j]? = some a → ∃ xs, Drawn P j m xs ∧ IsTN h a xs
theorem zipN_loop {R : Result → Shared → Prop} (Sp : ZSep z TI TO its fp) (D : ∀ j a, its[j]? = some a → Draws prog w A.in1.in1 a (fp j) n (P j) (St j)) (hne : its ≠ []) (hk : its.length ≤ sizeLine) (h1 : S ≠ z) (h2 : S ≠ TI) (h3 : S ≠ TO) (h4 : S ∉ its) (h5 : ∀ j, j < its.length → S ∉ fp j) (hn : n ≤ sizeLine) (res : Value) (L : Nat) :
    ∀ (k i : Nat) (s : Shared) (acc : Array Value) (c : Nat) (as : List Addr), n - i = k → i ≤ n → ZSt z TI TO S its St i s.heap → s.heap.get? S = some { cls := .type "list", dict := none, data := .seq acc c, slots := #[] } → acc.toList = as.map Value.ref → as.length = i →
      Put P its.length L s.heap z TO S its as → L ≤ s.heap.objs.size → TO < s.heap.objs.size →
      (∀ (h' : Heap) (tk : Nat) acc' c' as', (∀ b o, b ≠ z → b ≠ TO → b ∉ its → b ≠ S → s.heap.get? b = some o → h'.get? b = some o) → h'.get? S = some { cls := .type "list", dict := none, data := .seq acc' c', slots := #[] } → acc'.toList = as'.map Value.ref → as'.length = n → Put P its.length L h' z TO S its as' → R (.ok (.ret res)) { s with heap := h', toks := tk }) →
      codeAny (model prog w) A (.builtin "list.extend.loop" ⟨[.ref S, .ref z, res], []⟩) R s := by
  intro k
  induction k with
  | zero =>
    intro i s acc c as hki hi hst hS hacc hal hp hL hTOl hR
    have hin : i = n := by omega
    subst hin
    refine codeAny_builtin F.entry_extend_loop ?_
    rw [Around.under_plainId F.plain_extend_loop _]
    show wpAny _ A.in1 (pyNext (.ref z) >>= _) _ _ s
    refine wpAny_bind (zst_end Sp D hne hst fun h' hk' => ?_)
    refine wpAny_pure (hR h' s.toks acc c as (fun b o a1 a2 a3 _ e => hk' b o a1 a2 a3 e) (hk' S _ h1 h3 h4 hS) hacc hal ⟨hp.rise, hp.low, fun a ha => ?_, hp.apart, fun j a ha => ?_⟩)
    · obtain ⟨j, hj⟩ := List.getElem?_of_mem ha
      obtain ⟨xs, _, e⟩ := hp.tup j a hj
      obtain ⟨q1, q2, q3, _⟩ := hp.apart a ha
      exact Heap.lt_size (hk' _ _ q1 q2 q3 e)
    · obtain ⟨xs, d, e⟩ := hp.tup j a ha
      obtain ⟨q1, q2, q3, _⟩ := hp.apart a (List.mem_of_getElem? ha)
      exact ⟨xs, d, hk' _ _ q1 q2 q3 e⟩
  | succ k ih =>
    intro i s acc c as hki hi hst hS hacc hal hp hL hTOl hR
    have hlt : i < n := by omega
    refine codeAny_builtin F.entry_extend_loop ?_
    rw [Around.under_plainId F.plain_extend_loop _]
    show wpAny _ A.in1 (pyNext (.ref z) >>= _) _ _ s
    have hSl : S < s.heap.objs.size := Heap.lt_size hS
    refine wpAny_bind (zst_item Sp D hne hst hSl hlt hk fun xs h' tk hd hst' hT hk' => ?_)
    have hS' := hk' S _ h1 h3 h4 hS
    have hsz : s.heap.objs.size < h'.objs.size := Heap.lt_size hT
    have hasz : acc.size = i := by
      have := congrArg List.length hacc
      rw [Array.length_toList, List.length_map, hal] at this
      exact this
    have napart : s.heap.objs.size ≠ z ∧ s.heap.objs.size ≠ TO ∧ s.heap.objs.size ∉ its ∧ s.heap.objs.size ≠ S := by
      refine ⟨fun e => ?_, Nat.ne_of_gt hTOl, fun hm => ?_, Nat.ne_of_gt hSl⟩
      · obtain ⟨_, _, hz⟩ := hst
        rcases hz with ⟨hz, _⟩ | ⟨T, b, oT, hz, _⟩
        · exact Nat.lt_irrefl _ (e ▸ Heap.lt_size hz)
        · exact Nat.lt_irrefl _ (e ▸ Heap.lt_size hz)
      · obtain ⟨j, hj, e⟩ := List.getElem_of_mem hm
        obtain ⟨o, ho⟩ := (D j its[j] (List.getElem?_eq_getElem hj)).live i _ (hst.2.1 j hj)
        rw [e] at ho
        exact absurd (Heap.lt_size ho) (Nat.lt_irrefl _)
    show wpAny _ A.in1 (updateSeq S (·.push (.ref s.heap.objs.size)) >>= _) _ _ _
    refine wpAny_bind ?_
    have oth : ∀ b o, b ≠ S → h'.get? b = some o → (h'.update S (Obj.mapSeq (·.push (.ref s.heap.objs.size)))).get? b = some o := fun b o hb e => (Heap.get?_update_other _ _ (Ne.symm hb)).trans e
    refine wpAny_updateSeq hS' rfl (wpAny_pure ⟨plainId_quiet F.plain_extend_loop _, ih (i + 1) _ (acc.push (.ref s.heap.objs.size)) _ (as ++ [s.heap.objs.size]) (by omega) hlt (zst_but D hst' h1 h2 h3 h5 oth) (Heap.get?_update_self _ hS' rfl) (by rw [Array.toList_push, hacc, List.map_append]; rfl) (by rw [List.length_append, hal]; rfl) ⟨?_, ?_, ?_, ?_, ?_⟩ ?_ ?_ fun h'' tk'' acc' c' as' g1 g2 g3 g4 g5 => ?_⟩)
      (by rw [hasz]; omega) (by show (acc.push _).size ≤ sizeLine + 1; rw [Array.size_push, hasz]; omega)
    · rw [List.pairwise_append]
      exact ⟨hp.rise, by simp, fun a ha b hb => by rw [List.mem_singleton.mp hb]; exact hp.high a ha⟩
    · intro a ha
      rcases List.mem_append.mp ha with ha | ha
      · exact hp.low a ha
      · rw [List.mem_singleton.mp ha]; exact hL
    · intro a ha
      show a < (h'.update S (Obj.mapSeq (·.push (.ref s.heap.objs.size)))).objs.size
      rw [Heap.size_update]
      rcases List.mem_append.mp ha with ha | ha
      · exact Nat.lt_trans (hp.high a ha) hsz
      · rw [List.mem_singleton.mp ha]; exact hsz
    · intro a ha
      rcases List.mem_append.mp ha with ha | ha
      · exact hp.apart a ha
      · rw [List.mem_singleton.mp ha]; exact napart
    · intro j a ha
      by_cases c1 : j < as.length
      · rw [List.getElem?_append_left c1] at ha
        obtain ⟨ys, d, e⟩ := hp.tup j a ha
        obtain ⟨q1, q2, q3, q4⟩ := hp.apart a (List.mem_of_getElem? ha)
        exact ⟨ys, d, oth _ _ q4 (hk' _ _ q1 q2 q3 e)⟩
      · rw [List.getElem?_append_right (Nat.not_lt.mp c1)] at ha
        have hj : j = i := by
          by_cases e : j - as.length = 0
          · omega
          · rw [List.getElem?_eq_none (by simp; omega)] at ha; cases ha
        subst hj
        rw [hal, Nat.sub_self] at ha
        obtain rfl : s.heap.objs.size = a := Option.some.inj ha
        exact ⟨xs, hd, oth _ _ napart.2.2.2 hT⟩
    · show L ≤ (h'.update S (Obj.mapSeq (·.push (.ref s.heap.objs.size)))).objs.size
      rw [Heap.size_update]
      omega
    · show TO < (h'.update S (Obj.mapSeq (·.push (.ref s.heap.objs.size)))).objs.size
      rw [Heap.size_update]
      exact Nat.lt_trans hTOl hsz
    · exact hR h'' tk'' acc' c' as' (fun b o a1 a2 a3 a4 e => g1 b o a1 a2 a3 a4 (oth b o a4 (hk' b o a1 a2 a3 e))) g2 g3 g4 g5
/-- list(z) -/
theorem list_zipN {Q : Value → Shared → Prop} (Sp : ZSep z TI TO its fp) (D : ∀ (A : Around), A.handled = none → ∀ j a, its[j]? = some a → Draws prog w A a (fp j) n (P j) (St j)) (hh : A.handled = none) (hne : its ≠ []) (hk : its.length ≤ sizeLine) (hn : n ≤ sizeLine)
    (hz : IsZN s.heap z TI TO .none false) (hTI : IsTN s.heap TI (its.map Value.ref)) (hTO : IsTN s.heap TO (its.map fun _ => .none)) (st : ∀ j, j < its.length → St j 0 s.heap) (hf : ∀ j, j < its.length → ∀ b ∈ fp j, b < s.heap.objs.size) (L : Nat) (hL : L ≤ s.heap.objs.size)
    (hQ : ∀ (h' : Heap) (tk : Nat) acc' c' as', (∀ b o, b ≠ z → b ≠ TO → b ∉ its → s.heap.get? b = some o → h'.get? b = some o) → h'.get? s.heap.objs.size = some { cls := .type "list", dict := none, data := .seq acc' c', slots := #[] } → acc'.toList = as'.map Value.ref → as'.length = n → Put P its.length L h' z TO s.heap.objs.size its as' → Q (.ref s.heap.objs.size) { s with heap := h', toks := tk }) :
    wpAny (model prog w) A (call (.type "list") [.ref z]) Q E s := by
  refine callType_codes (Q₁ := fun obj s₁ => obj = .ref s.heap.objs.size ∧ s₁ = { s with heap := s.heap.push { cls := .type "list", data := .seq #[] } }) PySem.F.called_list (PySem.F.typeCall_list_1 _) PySem.F.entry_list_init
    (code_list_new _ ⟨rfl, rfl⟩) fun obj s₁ h₁ => ?_
  obtain ⟨rfl, rfl⟩ := h₁
  have hS : (s.heap.push { cls := .type "list", data := .seq #[] }).get? s.heap.objs.size = some { cls := .type "list", data := .seq #[] } := Heap.get?_push_size _ rfl
  refine ⟨⟨_, hS, rfl⟩, PySem.F.args_list_init_2 _ _, ?_⟩
  have a1 : s.heap.objs.size ≠ z := Nat.ne_of_gt (Heap.lt_size hz)
  have a2 : s.heap.objs.size ≠ TI := Nat.ne_of_gt (Heap.lt_size hTI)
  have a3 : s.heap.objs.size ≠ TO := Nat.ne_of_gt (Heap.lt_size hTO)
  have a5 : ∀ j, j < its.length → s.heap.objs.size ∉ fp j := fun j hj hm => Nat.lt_irrefl _ (hf j hj _ hm)
  have a4 : s.heap.objs.size ∉ its := fun hm => by
    obtain ⟨j, hj, e⟩ := List.getElem_of_mem hm
    exact a5 j hj (by rw [← e]; exact Sp.mem j _ (List.getElem?_eq_getElem hj))
  have st0 : ZSt z TI TO s.heap.objs.size its St 0 s.heap := ⟨hTI, st, .inl ⟨hz, _, hTO, by rw [List.length_map]⟩⟩
  show wpAny _ _ (do let old ← Builtin.List.listItems (.ref s.heap.objs.size); Builtin.List.listUpdate (.ref s.heap.objs.size) (fun _ => #[]); letGo old.toList.reverse; Builtin.List.listExtendWith (.ref s.heap.objs.size) (.ref z) .none) _ _ _
  refine wpAny_bind ?_
  unfold Builtin.List.listItems
  refine wpAny_bind (wpAny_seqItems hS rfl (wpAny_pure ?_))
  show wpAny _ _ (updateSeq s.heap.objs.size (fun _ => #[]) >>= fun _ => letGo (#[] : Array Value).toList.reverse >>= fun _ => Builtin.List.listExtendWith (.ref s.heap.objs.size) (.ref z) .none) _ _ _
  refine wpAny_bind (wpAny_updateSeq hS rfl ?_)
  have hS₂ := Heap.get?_update_self (Obj.mapSeq (fun _ => (#[] : Array Value))) hS rfl
  have oth : ∀ b o, b ≠ s.heap.objs.size → s.heap.get? b = some o → ((s.heap.push { cls := .type "list", data := .seq #[] }).update s.heap.objs.size (Obj.mapSeq (fun _ => (#[] : Array Value)))).get? b = some o :=
    fun b o hb e => (Heap.get?_update_other _ _ (Ne.symm hb)).trans (Heap.get?_push_of_some _ e)
  have sz2 : ((s.heap.push { cls := .type "list", data := .seq #[] }).update s.heap.objs.size (Obj.mapSeq (fun _ => (#[] : Array Value)))).objs.size = s.heap.objs.size + 1 := by rw [Heap.size_update, Heap.size_push]
  refine wpAny_bind (wpAny_letGo ?_)
  generalize (s.heap.push { cls := .type "list", data := .seq #[] }).update s.heap.objs.size (Obj.mapSeq (fun _ => (#[] : Array Value))) = h2 at hS₂ oth sz2 ⊢
  have hz2 := oth _ _ a1.symm hz
  unfold Builtin.List.listExtendWith
  refine wpAny_bind (wpAny_typeOf (T := "zip") ⟨_, hz2, rfl⟩ ?_)
  have e1 : Builtin.List.listSameRef (.ref s.heap.objs.size) (.ref z) = false := by simp [Builtin.List.listSameRef, a1]
  have e2 : (Value.type "zip" == Value.type "list") = false := by decide
  have e3 : (Value.type "zip" == Value.type "tuple") = false := by decide
  simp only [e1, e2, e3, Bool.or_false, Bool.false_eq_true, if_false]
  refine wpAny_bind (wpAny_pyIter_zip hz2 ?_)
  refine wpAny_bind (wpAny_holding ?_)
  unfold Builtin.List.listLengthHint
  refine wpAny_bind (wpAny_specialOf (T := "zip") ⟨_, hz2, rfl⟩ zip_no_len ?_)
  show wpAny _ _ (specialOf (Value.ref z) (Str.ofString "__length_hint__") >>= _) _ _ _
  refine wpAny_bind (wpAny_specialOf (T := "zip") ⟨_, hz2, rfl⟩ zip_no_hint ?_)
  refine wpAny_pure ?_
  show wpAny _ _ (rule "list.extend.makes-room" >>= fun _ => Builtin.List.listTouch (.ref s.heap.objs.size) >>= fun _ =>
    again (.builtin "list.extend.loop" ⟨[.ref s.heap.objs.size, .ref z, .none], []⟩)) _ _ _
  refine wpAny_bind (wpAny_rule ?_)
  refine wpAny_bind ?_
  show wpAny _ _ (updateSeq s.heap.objs.size (·.push .none) >>= fun _ => updateSeq s.heap.objs.size (·.pop)) _ _ _
  refine wpAny_bind (wpAny_updateSeq hS₂ rfl ?_)
  have hS₃ := Heap.get?_update_self (Obj.mapSeq (·.push Value.none)) hS₂ rfl
  refine wpAny_updateSeq (hz := by seq_fits) hS₃ rfl ?_
  have hS₄ := Heap.get?_update_self (Obj.mapSeq (·.pop)) hS₃ rfl
  have oth3 : ∀ b o, b ≠ s.heap.objs.size → s.heap.get? b = some o → ((h2.update s.heap.objs.size (Obj.mapSeq (·.push Value.none))).update s.heap.objs.size (Obj.mapSeq (·.pop))).get? b = some o :=
    fun b o hb e => (Heap.get?_update_other _ _ (Ne.symm hb)).trans ((Heap.get?_update_other _ _ (Ne.symm hb)).trans (oth b o hb e))
  have sz3 : ((h2.update s.heap.objs.size (Obj.mapSeq (·.push Value.none))).update s.heap.objs.size (Obj.mapSeq (·.pop))).objs.size = s.heap.objs.size + 1 := by rw [Heap.size_update, Heap.size_update, sz2]
  refine wpAny_pure ⟨plainId_quiet PySem.F.plain_extend_loop _, ?_⟩
  generalize (h2.update s.heap.objs.size (Obj.mapSeq (·.push Value.none))).update s.heap.objs.size (Obj.mapSeq (·.pop)) = h3 at hS₄ oth3 sz3 ⊢
  have st3 : ZSt z TI TO s.heap.objs.size its St 0 h3 := by
    obtain ⟨b1, b2, b3⟩ := st0
    refine ⟨oth3 _ _ a2.symm b1, fun j hj => (D A hh j its[j] (List.getElem?_eq_getElem hj)).frame 0 _ h3 (b2 j hj) fun b hb o e => oth3 b o (fun q => a5 j hj (by rw [← q]; exact hb)) e, ?_⟩
    exact .inl ⟨oth3 _ _ a1.symm hz, _, oth3 _ _ a3.symm hTO, by rw [List.length_map]⟩
  refine zipN_loop (A := A.in1) Sp (D _ hh) hne hk a1 a2 a3 a4 a5 hn .none L n 0 { s with heap := h3 } #[] _ [] (by omega) (Nat.zero_le _) st3 hS₄ rfl rfl ⟨List.Pairwise.nil, fun _ q => absurd q (by simp), fun _ q => absurd q (by simp), fun _ q => absurd q (by simp), fun j a q => by simp at q⟩ (show L ≤ h3.objs.size by rw [sz3]; omega) (show TO < h3.objs.size by rw [sz3]; exact Nat.lt_succ_of_lt (Heap.lt_size hTO)) fun h' tk acc' c' as' g1 g2 g3 g4 g5 => ?_
  exact ⟨rfl, hQ h' tk acc' c' as' (fun b o b1 b2 b3 e => by
    by_cases q : b = s.heap.objs.size
    · rw [q] at e; exact absurd (Heap.lt_size e) (Nat.lt_irrefl _)
    · exact g1 b o b1 b2 b3 q (oth3 b o q e)) g2 g3 g4 g5⟩
end
end Lg
/-! Lg29 -/
set_option maxHeartbeats 1000000
namespace Lg
open PySem PySem.Spec PyProof.Rows L2
/-- the columns of rows of n texts -/
def col (rows : List (List Str)) (j : Nat) : List Str := rows.map fun r => r.getD j "in"
theorem looks_type {M : Model} {h : Heap} {T : String} : PySem.W.Looks M h (keeperOf (.type T)) Keeper.machine := PySem.W.Looks.of_pure rfl
section
variable {X : Cx} {pins : List (Addr × Obj)} {σ : L2.St} {H : Hp} {s : Shared}
/-- zip(*e), the arguments spliced -/
theorem callWith_zipS {M : Model} {A : Around} {E : Value → Shared → Prop} {s : Shared} {env : Env} {pos p : Pos} {T : String} {e : Expr} {Q : Value → Shared → Prop}
    (h : wpAny M A (eval e env) (fun v s₁ => PySem.W.StarOf M A E v (fun vs s₂ => wpAny M A (call (.type T) vs) Q E s₂) s₁) E s) (he : starEach [.Starred e p] env = [(true, eval e env)] := by rfl) :
    wpAny M A (callWith pos (.type T) [] (backTo pos (starEach [.Starred e p] env)) []) Q E s := by
  rw [he]
  exact PySem.W.ks_call (P := fun _ => True) rfl (fun h _ => ⟨_, .inr (.inl rfl), looks_type⟩) (PySem.W.ks_lone (wpAny_mono h (fun v s₁ z => wpAny_mono z (fun b s₂ ⟨e, z2⟩ => ⟨e, wpAny_mono z2 (fun vs s₃ z3 => ⟨trivial, z3⟩) fun _ _ x => x⟩) fun _ _ x => x) fun _ _ x => x))
def tZipS (n : Nat) (te : TE) : TE := fun σ H Q => te σ H fun x H1 => ∃ (a : Addr) (ks : List (Addr × List Str)), x = .ref a ∧ MatAt H1 a ks ∧ 2 ≤ ks.length ∧ ks.length ≤ 8 ∧ (∀ p ∈ ks, p.2.length = n) ∧ n ≤ 1000 ∧
  ∀ (H2 : Hp) (l : Addr) (cs : List (Addr × List Str)), Same H1 H2 → H1 l = none → (∀ p ∈ cs, H1 p.1 = none) → H2 l = some (.lst (cs.map fun p => V.ref p.1)) → (∀ p ∈ cs, H2 p.1 = some (.tup (p.2.map V.str))) → cs.map (·.2) = (List.range n).map (col (ks.map (·.2))) → Q (.ref l) H2
theorem vals_get : ∀ {vs : List V} {us : List Value}, vs.length = us.length → (∀ (m : Nat) (v : V) (u : Value), vs[m]? = some v → us[m]? = some u → RelV v u) → Vals vs us
  | [], [], _, _ => .nil
  | v :: vs, u :: us, hl, h => .cons (h 0 v u rfl rfl) (vals_get (by simpa using hl) fun m v' u' a b => h (m + 1) v' u' a b)
  | [], _ :: _, hl, _ => by cases hl
  | _ :: _, [], hl, _ => by cases hl
theorem vals_at {vs : List V} {us : List Value} (r : Vals vs us) {m : Nat} {v : V} {u : Value} (a : vs[m]? = some v) (b : us[m]? = some u) : RelV v u := by
  obtain ⟨w, e, r'⟩ := r.get a
  rw [e] at b
  cases b
  exact r'
theorem pe_listZipS {e : Expr} {te : TE} {n : Nat} {p p2 p3 pos pos2 : Pos} (hc : X.calm = true) (hg : Gl X "list") (hm : X.mg "list" = none) (hg2 : Gl X "zip") (hm2 : X.mg "zip" = none) (he : PE X e te)
    (hs : starEach [.Starred e p3] X.env = [(true, eval e X.env)] := by rfl)
    (na : starEach [.Call (.Name "zip" p2) [.Starred e p3] [] pos2] X.env = (false, eval (.Call (.Name "zip" p2) [.Starred e p3] [] pos2) X.env) :: starEach [] X.env := by rfl) :
    PE X (.Call (.Name "list" p) [.Call (.Name "zip" p2) [.Starred e p3] [] pos2] [] pos) (tZipS n te) := by
  refine ⟨fun pins s0 σ H Q I0 h => ?_⟩
  refine Call_ (ld_blt I0 hg hm PyProof.Rows.boot_list ?_)
  refine PyProof.Rows.callWith_type1 (PyProof.Rows.args_cons ?_ rfl) na rfl
  refine Call_ (ld_blt I0 hg2 hm2 PyProof.Rows.boot_zip (callWith_zipS (thn (he.run pins s0 σ H _ I0 h) fun v s1 ⟨x, H1, I1, r1, q1⟩ => ?_) hs))
  obtain ⟨a, ks, rfl, m, h2, h8, hn, hn1, q⟩ := q1
  obtain rfl : v = Value.ref a := r1
  refine StX.star_any (xs := ks.map fun p => V.ref p.1) I1 (.inl (.inl (.inl m.1))) fun us s2 I rv => ?_
  obtain rfl := refs_valsR rv
  clear h I1
  -- the tuples' items
  let itm : Addr → Array Value := fun t => match s2.heap.get? t with
    | some o => (match o.data with
      | .seq vs _ => vs
      | _ => #[])
    | none => #[]
  have hit : ∀ p ∈ ks, s2.heap.IsTuple p.1 (itm p.1) ∧ Vals (p.2.map V.str) (itm p.1).toList := fun p hp => by
    obtain ⟨its, rv, pl, _⟩ := I.tuple (.inl (.inl (m.2 p hp)))
    obtain ⟨o, e1, e2, k, e3⟩ := id pl
    have ei : itm p.1 = its.toArray := by show (match s2.heap.get? p.1 with | some o => _ | none => _) = _; rw [e1]; dsimp only; rw [e3]
    rw [ei]
    exact ⟨pl, by simpa using rv⟩
  have hsz : ∀ p ∈ ks, (itm p.1).size = n := fun p hp => by
    have := (hit p hp).2.length
    rw [List.length_map, Array.length_toList, hn p hp] at this
    exact this.symm
  have hlo : ∀ p ∈ ks, p.1 < s2.heap.objs.size := fun p hp => by
    obtain ⟨o, e1, _⟩ := (hit p hp).1
    exact Heap.lt_size e1
  have hl : (ks.map (·.1)).length = ks.length := List.length_map ..
  have eargs : (ks.map fun p => Value.ref p.1) = (ks.map (·.1)).map Value.ref := by rw [List.map_map]; rfl
  rw [eargs]
  refine zipN_begins (ks.map (·.1)) itm (by rw [hl]; exact h2) (by rw [hl]; exact h8) (fun t ht => ?_) fun h' k1 z1 I1 gTI gTO gZ => ?_
  · obtain ⟨p, hp, rfl⟩ := List.mem_map.mp ht
    exact (hit p hp).1
  refine PyProof.Rows.args_nil ?_
  rw [hl] at z1 gTI gTO gZ ⊢
  have hN : ∀ j (hj : j < ks.length), (ks.map (·.1)).getD j 0 = ks[j].1 := fun j hj => by
    rw [List.getD_eq_getElem?_getD, List.getElem?_map, List.getElem?_eq_getElem hj]
    rfl
  have hils : ((List.range ks.length).map fun j => (s2.heap.objs.size + j : Nat)).length = ks.length := by rw [List.length_map, List.length_range]
  have hig : ∀ j a, ((List.range ks.length).map fun j => (s2.heap.objs.size + j : Nat))[j]? = some a → j < ks.length ∧ a = s2.heap.objs.size + j := fun j a e => by
    rw [List.getElem?_map] at e
    cases q : (List.range ks.length)[j]? with
    | none => rw [q] at e; cases e
    | some i =>
      rw [q] at e
      obtain ⟨hj, e2⟩ := List.getElem?_eq_some_iff.mp q
      rw [List.getElem_range] at e2
      rw [List.length_range] at hj
      cases e
      exact ⟨hj, by rw [← e2]⟩
  have Sp : ZSep (s2.heap.objs.size + ks.length + 2) (s2.heap.objs.size + ks.length) (s2.heap.objs.size + ks.length + 1) ((List.range ks.length).map fun j => (s2.heap.objs.size + j : Nat)) (fun j => [s2.heap.objs.size + j, (ks.map (·.1)).getD j 0]) := by
    refine ⟨by omega, by omega, by omega, fun b hb => ?_, fun j b hb => ?_, fun j hj => ?_, fun j hj => ?_, fun j k b hb hk hjk => ?_⟩
    · obtain ⟨j, hj⟩ := List.getElem?_of_mem hb
      obtain ⟨h1, rfl⟩ := hig j b hj
      omega
    · obtain ⟨h1, rfl⟩ := hig j b hb
      exact List.mem_cons_self
    · rw [hils] at hj
      have : @LT.lt Nat _ ks[j].1 s2.heap.objs.size := hlo ks[j] (List.getElem_mem hj)
      rw [hN j hj]
      simp only [List.mem_cons, List.not_mem_nil, or_false, not_or]
      omega
    · rw [hils] at hj
      have : @LT.lt Nat _ ks[j].1 s2.heap.objs.size := hlo ks[j] (List.getElem_mem hj)
      rw [hN j hj]
      simp only [List.mem_cons, List.not_mem_nil, or_false, not_or]
      omega
    · obtain ⟨h1, rfl⟩ := hig j b hb
      rw [hils] at hk
      have : @LT.lt Nat _ ks[k].1 s2.heap.objs.size := hlo ks[k] (List.getElem_mem hk)
      rw [hN k hk]
      simp only [List.mem_cons, List.not_mem_nil, or_false, not_or]
      omega
  have D : ∀ (A : Around), A.handled = none → ∀ j a, ((List.range ks.length).map fun j => (s2.heap.objs.size + j : Nat))[j]? = some a → Draws X.prog X.w A a ([s2.heap.objs.size + j, (ks.map (·.1)).getD j 0]) n (ItP (itm ((ks.map (·.1)).getD j 0))) (StT (s2.heap.objs.size + j) ((ks.map (·.1)).getD j 0) (itm ((ks.map (·.1)).getD j 0))) := fun A hh j b hb => by
    obtain ⟨h1, rfl⟩ := hig j b hb
    rw [hN j h1]
    have := Draws.tuple (prog := X.prog) (w := X.w) hh (s2.heap.objs.size + j) ks[j].1 (Nat.ne_of_lt (Nat.lt_of_lt_of_le (hlo _ (List.getElem_mem h1)) (Nat.le_add_right _ _))) (itm ks[j].1)
    rw [hsz _ (List.getElem_mem h1)] at this
    exact this
  refine list_zipN (n := n) Sp D (I.ok.hd hc) (fun e => by
      have := congrArg List.length e
      rw [hils, List.length_nil] at this
      omega) (by rw [hils, sizeLine_eq]; omega) (by rw [sizeLine_eq]; omega) gZ (by rw [List.map_map]; exact gTI) (by
      have : ((List.range ks.length).map fun j => (s2.heap.objs.size + j : Nat)).map (fun _ => Value.none) = (ks.map (·.1)).map fun _ => .none := List.ext_getElem (by rw [List.length_map, hils, List.length_map, hl]) fun i a b => by rw [List.getElem_map, List.getElem_map]
      rw [this]; exact gTO) (fun j hj => ?_) (fun j hj b hb => ?_) s2.heap.objs.size (by show _ ≤ h'.objs.size; rw [z1]; omega) fun h3 tk acc c as' g1 g2 g3 g4 g5 => ?_
  · rw [hils] at hj
    show StT _ _ _ 0 h'
    rw [hN j hj]
    refine ⟨⟨_, I1 j ks[j].1 (by rw [List.getElem?_map, List.getElem?_eq_getElem hj]; rfl), rfl, rfl⟩, ?_⟩
    obtain ⟨o, e1, e2⟩ := (hit ks[j] (List.getElem_mem hj)).1
    exact ⟨o, k1 _ _ e1, e2⟩
  · rw [hils] at hj
    rw [hN j hj] at hb
    have : @LT.lt Nat _ ks[j].1 s2.heap.objs.size := hlo ks[j] (List.getElem_mem hj)
    show b < h'.objs.size
    rw [z1]
    simp only [List.mem_cons, List.not_mem_nil, or_false] at hb
    rcases hb with rfl | rfl
    · show @LT.lt Nat _ _ _
      omega
    · show @LT.lt Nat _ _ _
      omega
  -- the list and its tuples are told
  have keep : ∀ b o, s2.heap.get? b = some o → h3.get? b = some o := fun b o e => by
    have hb : @LT.lt Nat _ b s2.heap.objs.size := Heap.lt_size e
    refine g1 b o (fun q => ?_) (fun q => ?_) (fun hm => ?_) (k1 b o e)
    · have q' : @Eq Nat b _ := q
      omega
    · have q' : @Eq Nat b _ := q
      omega
    · obtain ⟨j, hj⟩ := List.getElem?_of_mem hm
      obtain ⟨_, e2⟩ := hig j b hj
      have e3 : @Eq Nat b _ := e2
      omega
  have hle : s2.heap.objs.size ≤ h'.objs.size := by rw [z1]; omega
  have nl := I.hok.fresh hle
  have hal : (as'.map V.ref).length ≤ sizeLine := by rw [List.length_map, g4, sizeLine_eq]; omega
  have I3 : L2.Inv X pins σ (upd H1 h'.objs.size (.lst (as'.map V.ref))) { s2 with heap := h3, toks := tk } := I.laid (t' := tk) keep hle ⟨hal, acc.toList, c, by rw [g3]; exact vals_refs _, by rw [Array.toArray_toList]; exact g2⟩
  have nd : as'.Nodup := g5.rise.imp fun {a b} h => Nat.ne_of_lt h
  obtain ⟨H2, I4, gk, qt⟩ := L2.DX.takeT (P := fun b vs => ∃ j : Nat, as'[j]? = some b ∧ vs = (col (ks.map (·.2)) j).map V.str) I as' _ I3 nd fun b hb => by
    obtain ⟨j, hj⟩ := List.getElem?_of_mem hb
    obtain ⟨xs, ⟨d1, d2⟩, hT⟩ := g5.tup j b hj
    rw [hils] at d1
    refine ⟨g5.low b hb, ?_, _, ⟨j, hj, rfl⟩, fun H3 => ⟨by rw [List.length_map]; unfold col; rw [List.length_map, List.length_map, sizeLine_eq]; omega, xs, ?_, ⟨_, hT, rfl, 0, rfl⟩⟩⟩
    · rw [upd_ne (g5.apart b hb).2.2.2]
      exact I.hok.fresh (g5.low b hb)
    · refine vals_get (by rw [List.length_map]; unfold col; rw [List.length_map, List.length_map, d1]) fun i v u e1 e2 => ?_
      have hi : i < ks.length := by
        have := (List.getElem?_eq_some_iff.mp e2).1
        omega
      have e3 := d2 i u e2
      have e3' : (itm ((ks.map (·.1)).getD i 0))[j]? = some u := e3
      rw [hN i hi] at e3'
      have hjn : j < n := by
        have := (Array.getElem?_eq_some_iff.mp e3').1
        rw [hsz _ (List.getElem_mem hi)] at this
        exact this
      have hr := (hit ks[i] (List.getElem_mem hi)).2
      have hrl := hn ks[i] (List.getElem_mem hi)
      have ev : v = V.str (ks[i].2.getD j "in") := by
        unfold col at e1
        rw [List.getElem?_map, List.getElem?_map, List.getElem?_map, List.getElem?_eq_getElem hi] at e1
        exact (Option.some.inj e1).symm
      rw [ev]
      refine vals_at hr (m := j) ?_ (by rw [Array.getElem?_toList]; exact e3')
      rw [List.getElem?_map, List.getD_eq_getElem?_getD, List.getElem?_eq_getElem (by omega)]
      rfl
  have gr : ∀ b o, H1 b = some o → H2 b = some o := fun b o e => gk b o (by rw [upd_ne (ne_of_none e nl)]; exact e)
  have hcs1 : ((List.range n).map fun j => (as'.getD j 0, col (ks.map (·.2)) j)).map (·.1) = as' := by
    rw [List.map_map]
    refine List.ext_getElem (by rw [List.length_map, List.length_range, g4]) fun i a b => ?_
    rw [List.getElem_map, List.getElem_range]
    show as'.getD i 0 = _
    rw [List.getD_eq_getElem?_getD, List.getElem?_eq_getElem b]
    rfl
  have hcs : ∀ p ∈ (List.range n).map fun j => (as'.getD j 0, col (ks.map (·.2)) j), ∃ j, as'[j]? = some p.1 ∧ p.2 = col (ks.map (·.2)) j := fun p hp => by
    obtain ⟨j, hj, rfl⟩ := List.mem_map.mp hp
    have hj := List.mem_range.mp hj
    exact ⟨j, by dsimp only; rw [List.getD_eq_getElem?_getD, List.getElem?_eq_getElem (by omega)]; rfl, rfl⟩
  refine ⟨.ref h'.objs.size, H2, I4, rfl, q H2 _ ((List.range n).map fun j => (as'.getD j 0, col (ks.map (·.2)) j)) gr nl (fun p hp => ?_) ?_ (fun p hp => ?_) (by rw [List.map_map]; rfl)⟩
  · obtain ⟨j, hj, _⟩ := hcs p hp
    exact I.hok.fresh (g5.low _ (List.mem_of_getElem? hj))
  · have : ((List.range n).map fun j => (as'.getD j 0, col (ks.map (·.2)) j)).map (fun p => V.ref p.1) = as'.map V.ref := by
      rw [show (fun p : Addr × List Str => V.ref p.1) = V.ref ∘ (·.1) from rfl, ← List.map_map, hcs1]
    rw [this]
    exact gk _ _ upd_same
  · obtain ⟨j, hj, e⟩ := hcs p hp
    obtain ⟨vs, ⟨j2, hj2, ev⟩, e2⟩ := qt p.1 (List.mem_of_getElem? hj)
    have ej : j = j2 := (List.getElem?_inj (List.getElem?_eq_some_iff.mp hj).1 nd).mp (hj.trans hj2.symm)
    rw [e2, ev, e, ej]
end
end Lg
/-! LgV -/
set_option maxHeartbeats 1000000
namespace Lg
open PySem L2
def subs {α : Type} : List α → List (List α)
  | [] => [[]]
  | x :: l => subs l ++ (subs l).map (x :: ·)
theorem mem_subs {α : Type} {l' l : List α} (h : l'.Sublist l) : l' ∈ subs l := by
  induction h with
  | slnil => simp [subs]
  | cons a _ ih => exact List.mem_append_left _ ih
  | cons_cons a _ ih => exact List.mem_append_right _ (List.mem_map_of_mem ih)
theorem length_subs {α : Type} : ∀ l : List α, (subs l).length = 2 ^ l.length
  | [] => rfl
  | x :: l => by
    show (subs l ++ (subs l).map (x :: ·)).length = 2 ^ (l.length + 1)
    rw [List.length_append, List.length_map, length_subs l, Nat.pow_succ]
    omega
theorem map_sub {α β : Type} (f : α → β) {l' l : List α} (h : l'.Sublist l) : (l'.map f).Sublist (l.map f) := h.map f
theorem col_at (rows : List Row) : col rows = colAt rows := rfl
def reps : List Nat := [0, 1, 4, 5, 16, 17, 20, 21]
theorem rep_of : ∀ j, j < 64 → ∃ j' ∈ reps, ∀ f : Fl, (rowB f).getD j "in" = (rowB f).getD j' "in" := by
  have k : ∀ j ∈ List.range 64, ∃ j' ∈ reps, ∀ f ∈ flags, (rowB f).getD j "in" = (rowB f).getD j' "in" := by decide +kernel
  intro j hj
  obtain ⟨j', h1, h2⟩ := k j (List.mem_range.mpr hj)
  exact ⟨j', h1, fun f => h2 f (mem_flags f)⟩
theorem cols_few {rows : List Row} (h : ∀ r ∈ rows, ∃ f, r = rowB f) : ∀ c ∈ colsOf 64 rows, c ∈ reps.map (colAt rows) := by
  intro c hc
  obtain ⟨j, hj, rfl⟩ := mem_cols.mp hc
  obtain ⟨j', h1, h2⟩ := rep_of j hj
  refine List.mem_map.mpr ⟨j', h1, ?_⟩
  unfold colAt
  refine List.map_congr_left fun r hr => ?_
  obtain ⟨f, rfl⟩ := h r hr
  exact (h2 f).symm
def partK (ks : List (Addr × Row)) (c : List Str) (side : Str) : List (Addr × Row) := ((ks.zip c).filter fun p => p.2 == side).map (·.1)
theorem partK_snd (ks : List (Addr × Row)) (c : List Str) (side : Str) : (partK ks c side).map (·.2) = part (ks.map (·.2)) c side := by
  unfold partK part
  rw [List.zip_map_left, List.filter_map, List.map_map, List.map_map]
  rfl
theorem zip_fst {α β : Type} : ∀ (xs : List α) (ys : List β), ((xs.zip ys).map (·.1)).Sublist xs
  | [], _ => by simp
  | _ :: _, [] => by simp
  | x :: xs, y :: ys => (zip_fst xs ys).cons_cons x
theorem partK_sub (ks : List (Addr × Row)) (c : List Str) (side : Str) : (partK ks c side).Sublist ks := by
  unfold partK
  have h1 : (((ks.zip c).filter fun p => p.2 == side).map (·.1)).Sublist ((ks.zip c).map (·.1)) := (List.filter_sublist ..).map _
  refine h1.trans ?_
  exact zip_fst ks c
theorem walk_zipT {K : PySem.W.Frag} {a b : Addr} {xs ys : List V} {n : Nat} (hn : n = min xs.length ys.length) : Walk (RZ.ItzT K a b) n (fun H => SqT K H a xs ∧ SqT K H b ys) (fun i H v H' => ∃ T x y, v = .ref T ∧ H T = none ∧ H' = upd H T (.tup [x, y]) ∧ xs[i]? = some x ∧ ys[i]? = some y) := by
  subst hn
  refine ⟨fun i _ hi q => ?_, fun _ q => ⟨xs, ys, q.1, q.2, by omega⟩, fun i H v H' _ q y => ?_⟩
  · have h1 : i < xs.length := by omega
    have h2 : i < ys.length := by omega
    exact ⟨xs, ys, xs[i], ys[i], q.1, q.2, List.getElem?_eq_getElem h1, List.getElem?_eq_getElem h2⟩
  · obtain ⟨T, x, y, rfl, h1, h2, h3, h4⟩ := y
    exact ⟨T, x, y, rfl, h1, h2, h3 xs q.1, h4 ys q.2⟩
theorem pi_zipAB {X : Cx} {e e2 : Expr} {ta : TA} {p pos tpos : Pos} {elts : List Expr} {kk : Nat} (K : PySem.W.Frag) (hg : Gl X "zip") (hm : X.mg "zip" = none) (ha : PA X [e, e2] ta) (hK : X.K = K := by rfl)
    (hs : starEach [e, e2] X.env = (false, eval e X.env) :: starEach [e2] X.env := by rfl) (hpl : (backTo pos (starEach [e2] X.env)).any (·.1) = false := by rfl) :
    PI X (.Tuple elts kk tpos) (.Call (.Name "zip" p) [e, e2] [] pos) (RZ.iZipA K ta) := by
  subst hK
  exact RZ.pi_zipA hg hm ha hs hpl
/-- min, told once -/
theorem fold_take (f : Nat → List Str → Nat) (L : List (List Str)) (b : Nat) {i : Nat} {c : List Str} (h : L[i]? = some c) : (L.take (i + 1)).foldl f b = f ((L.take i).foldl f b) c := by
  rw [List.take_succ, h, List.foldl_append]
  rfl
def dRow (r : Row) : PyData := .tuple (r.map .str)
def dRows (rows : List Row) : PyData := .list (rows.map dRow)
theorem lay_strs : ∀ r : Row, (∀ x ∈ r, x = "in" ∨ x = "out") → PyData.canLayAll0 (r.map .str) = true
  | [], _ => by simp [PyData.canLayAll0]
  | x :: r, h => by
    show PyData.canLayAll0 (.str x :: r.map .str) = true
    rw [PyData.canLayAll0, lay_strs r fun y hy => h y (List.mem_cons_of_mem _ hy)]
    have hx : (PyData.str x).canLay0 = true := by
      rcases h x List.mem_cons_self with rfl | rfl <;> decide +kernel
    rw [hx]
    rfl
theorem lay_rows : ∀ rows : List Row, (∀ r ∈ rows, ∀ x ∈ r, x = "in" ∨ x = "out") → PyData.canLayAll0 (rows.map dRow) = true
  | [], _ => by simp [PyData.canLayAll0]
  | r :: rows, h => by
    show PyData.canLayAll0 (dRow r :: rows.map dRow) = true
    rw [PyData.canLayAll0, lay_rows rows fun y hy => h y (List.mem_cons_of_mem _ hy)]
    have hx : (dRow r).canLay0 = true := by
      unfold dRow
      rw [PyData.canLay0]
      exact lay_strs r (h r List.mem_cons_self)
    rw [hx]
    rfl
theorem depth_dRows : ∀ rows : List Row, PyData.depthAll (rows.map dRow) ≤ 1
  | [] => by simp [PyData.depthAll]
  | r :: rows => by
    show PyData.depthAll (dRow r :: rows.map dRow) ≤ 1
    have := depth_dRows rows
    have h2 : (dRow r).depth ≤ 1 := by
      unfold dRow
      rw [PyData.depth, depth_strs]
      exact Nat.le_refl _
    rw [PyData.depthAll]
    omega
theorem shaped_two {a b : List Row} (ha : ∀ r ∈ a, ∀ x ∈ r, x = "in" ∨ x = "out") (hb : ∀ r ∈ b, ∀ x ∈ r, x = "in" ∨ x = "out") : SeqAt.shaped (.list [dRows a, dRows b]) = true := by
  unfold SeqAt.shaped dRows
  rw [PyData.canLay0, PyData.canLayAll0, PyData.canLayAll0, PyData.canLayAll0, PyData.canLay0, PyData.canLay0, lay_rows a ha, lay_rows b hb, PyData.depth, PyData.depthAll, PyData.depthAll, PyData.depthAll, PyData.depth, PyData.depth]
  have h1 := depth_dRows a
  have h2 := depth_dRows b
  simp only [Bool.true_and, decide_eq_true_eq]
  omega
theorem eqv_nil (a : List Row) : PyData.eqv (dRows a) (.list []) = a.isEmpty := by
  unfold dRows
  cases a with
  | nil => simp [PyData.eqv, PyData.eqvAll]
  | cons r a => simp [PyData.eqv, PyData.eqvAll]
theorem dp_strs {K : PySem.W.Frag} {H : Hp} : ∀ r : Row, DpAll K H (r.map V.str) (r.map .str)
  | [] => .nil
  | x :: r => .cons (.str x) (dp_strs r)
theorem dp_rows {K : PySem.W.Frag} {H : Hp} : ∀ {ks : List (Addr × Row)}, (∀ p ∈ ks, H p.1 = some (.tup (p.2.map V.str))) → DpAll K H (ks.map fun p => V.ref p.1) ((ks.map (·.2)).map dRow)
  | [], _ => .nil
  | p :: ks, h => .cons (.tup (.inl (.inl (h p List.mem_cons_self))) (dp_strs p.2)) (dp_rows fun q hq => h q (List.mem_cons_of_mem _ hq))
/-- a view that tells more: what N marks is new -/
def tellN (B H : Hp) (N : Addr → Bool) : Hp := fun b => if N b = true then H b else B b
theorem tellN_in {B H : Hp} {N : Addr → Bool} {b : Addr} (h : N b = true) : tellN B H N b = H b := by
  unfold tellN; rw [if_pos h]
theorem tellN_out {B H : Hp} {N : Addr → Bool} {b : Addr} (h : ¬ N b = true) : tellN B H N b = B b := by
  unfold tellN; rw [if_neg h]
theorem gr_tellN {M : Addr → Prop} {B H H' : Hp} {N : Addr → Bool} (sm : Same B H) (e : Same H H') (hN : ∀ a, N a = true → H a = none) : Gr M B H (tellN B H' N) H' := by
  have k : ∀ a o, B a = some o → ¬ N a = true := fun a o h n => by
    have := sm _ _ h
    rw [hN a n] at this
    cases this
  refine ⟨fun a o h => by rw [tellN_out (k a o h)]; exact h, fun a o h => ?_, fun a o _ h => e _ _ h, fun a o h => ⟨o, e _ _ h⟩, fun a o h1 h2 => ?_⟩
  · by_cases n : N a = true
    · rw [tellN_in n] at h; exact h
    · rw [tellN_out n] at h; exact e _ _ (sm _ _ h)
  · rw [tellN_out fun n => by rw [hN a n] at h2; cases h2]
    exact h1
end Lg
/-! D37 -/
set_option maxHeartbeats 1000000
namespace Lg
open PySem L2
section
variable {P : Program} {w : World} {K : PySem.W.Frag} {mg : Str → Option Value} {base : Heap}
/-- what a memo holds -/
structure Memo (B : Hp) (K0 : List (Addr × Row)) (xs : List NE) : Prop where
  keys : KeysOk B xs
  vals : ∀ x ∈ xs, x.2.2 = .int (fewest 64 x.1)
  nd : (xs.map (·.1)).Nodup
  sub : ∀ x ∈ xs, x.1 ∈ subs (K0.map (·.2))
/-- the rows that are split -/
structure Top (B : Hp) (K0 : List (Addr × Row)) : Prop where
  srt : K0.Pairwise fun a b => leR a b = true
  len : K0.length ≤ 8
  row : ∀ p ∈ K0, ∃ f, p.2 = rowB f
  told : ∀ p ∈ K0, B p.1 = some (.tup (p.2.map V.str))
theorem Top.mono {B B' : Hp} {K0 : List (Addr × Row)} (h : Top B K0) (s : Same B B') : Top B' K0 := ⟨h.srt, h.len, h.row, fun p hp => s _ _ (h.told p hp)⟩
theorem Memo.mono {B B' : Hp} {K0 : List (Addr × Row)} {xs : List NE} (h : Memo B K0 xs) (s : Same B B') : Memo B' K0 xs := ⟨h.keys.same s, h.vals, h.nd, h.sub⟩
theorem Memo.len {B : Hp} {K0 : List (Addr × Row)} {xs : List NE} (h : Memo B K0 xs) (hl : K0.length ≤ 8) : xs.length ≤ 256 := by
  have := nodup_leK (xs.map (·.1)) (subs (K0.map (·.2))) h.nd fun r hr => by
    obtain ⟨x, hx, rfl⟩ := List.mem_map.mp hr
    exact h.sub x hx
  rw [List.length_map, length_subs, List.length_map] at this
  exact Nat.le_trans this (Nat.le_trans (Nat.pow_le_pow_right (by decide) hl) (by decide))
theorem atN_mem {xs : List NE} {rows : List Row} {v : V} (h : atN xs rows = some v) : ∃ x ∈ xs, x.1 = rows ∧ x.2.2 = v := by
  unfold atN at h
  obtain ⟨x, hx, rfl⟩ := Option.map_eq_some_iff.mp h
  exact ⟨x, List.mem_of_find?_eq_some hx, of_decide_eq_true (List.find?_some (p := fun x : NE => decide (x.1 = rows)) hx), rfl⟩
theorem atN_none {xs : List NE} {rows : List Row} (h : atN xs rows = none) : rows ∉ xs.map (·.1) := by
  intro m
  obtain ⟨x, hx, rfl⟩ := List.mem_map.mp m
  unfold atN at h
  rw [Option.map_eq_none_iff, List.find?_eq_none] at h
  exact h x hx (decide_eq_true rfl)
theorem Memo.put {B : Hp} {K0 : List (Addr × Row)} {xs : List NE} {ks : List (Addr × Row)} {b : Addr} (h : Memo B K0 xs) (m : MatAt B b ks) (hs : ks.Sublist K0) : Memo B K0 (putN xs (ks.map (·.2)) b (.int (fewest 64 (ks.map (·.2))))) ∧ atN (putN xs (ks.map (·.2)) b (.int (fewest 64 (ks.map (·.2))))) (ks.map (·.2)) = some (.int (fewest 64 (ks.map (·.2)))) := by
  unfold putN
  cases q : atN xs (ks.map (·.2)) with
  | none =>
    rw [if_neg (by simp)]
    refine ⟨⟨fun x hx => ?_, fun x hx => ?_, ?_, fun x hx => ?_⟩, ?_⟩
    · rcases List.mem_append.mp hx with hx | hx
      · exact h.keys x hx
      · rw [List.mem_singleton.mp hx]; exact ⟨ks, rfl, m⟩
    · rcases List.mem_append.mp hx with hx | hx
      · exact h.vals x hx
      · rw [List.mem_singleton.mp hx]
    · rw [List.map_append, List.nodup_append]
      exact ⟨h.nd, by simp, fun a ha b hb e => by
        simp only [List.map_cons, List.map_nil, List.mem_singleton] at hb
        exact atN_none q (by rw [← hb, ← e]; exact ha)⟩
    · rcases List.mem_append.mp hx with hx | hx
      · exact h.sub x hx
      · rw [List.mem_singleton.mp hx]; exact mem_subs (map_sub _ hs)
    · unfold atN at q ⊢
      rw [Option.map_eq_none_iff] at q
      rw [List.find?_append, q]
      simp
  | some v =>
    simp only [Option.isSome_some, if_true]
    have same : xs.map (fun x => if x.1 = ks.map (·.2) then (x.1, x.2.1, V.int (fewest 64 (ks.map (·.2)))) else x) = xs := by
      refine (List.map_congr_left (g := id) fun x hx => ?_).trans (List.map_id xs)
      by_cases e : x.1 = ks.map (·.2)
      · rw [if_pos e, ← e, ← h.vals x hx]; rfl
      · rw [if_neg e]; rfl
    rw [same]
    refine ⟨h, ?_⟩
    obtain ⟨x, hx, e1, e2⟩ := atN_mem q
    rw [q, ← e2, h.vals x hx, e1]
def rPartL (ks : List (Addr × Row)) (c : List Str) (side : Str) : Rp := fun v B => ∃ p, v = .ref p ∧ B p = some (.lst ((partK ks c side).map fun q => V.ref q.1))
theorem mono_part (ks : List (Addr × Row)) (c : List Str) (side : Str) : Mono (rPartL ks c side) := fun _ _ _ s ⟨p, e, h⟩ => ⟨p, e, s _ _ h⟩
def scSide : Scope := { kind := .function, names := [(".0", .local), ("side", .cell), ("zip", .globalImplicit), ("column", .cell), ("key", .cell)], isGenerator := false, isCoroutine := false }
def sp_splits (P : Program) (w : World) (K : PySem.W.Frag) (m : Nat) : Sp := fun vs H Q _ => ∃ (B : Hp) (rl kd : Addr) (ks K0 : List (Addr × Row)) (xs : List NE), vs = [.ref rl, .ref kd] ∧ B rl = some (.lst (ks.map fun p => V.ref p.1)) ∧ ks.length ≤ m ∧ ks.Sublist K0 ∧ Top B K0 ∧ B kd = none ∧ H kd = some (DNO P w kd xs) ∧ Memo B K0 xs ∧ Same B H ∧
  ∀ B' H' xs', Gr (fun z => z = kd) B H B' H' → H' kd = some (DNO P w kd xs') → Memo B' K0 xs' → Q (.int (fewest 64 (ks.map (·.2)))) H'
theorem splits_gen (T : Txt K mg) {k m : Nat} {sub : Sp} (ok_fewest_splits : FnOk P w K mg base CX0 k (a_fewest_splits K) (fdOf K (a_fewest_splits K)) ["rows", "known"] sub) (hsub : ∀ m', m' < m → ∀ vs H Q E, sp_splits P w K m' vs H Q E → sub vs H Q E) :
    FnOk P w K mg base CX0 (k + 1) (a_fewest_splits K) (fdOf K (a_fewest_splits K)) ["rows", "known"] (sp_splits P w K m) := by
  refine (f_fewest_splits T).ok sc_fewest_splits (fun vs H Q E h => ?_) (fun cdv A outer s0 H vs Q E hr h => ?_)
  · obtain ⟨B, rl, kd, ks, K0, xs, rfl, _⟩ := h
    rfl
  · obtain ⟨B, rl, kd, ks, K0, xs, rfl, hrl, hm, hks, tp, hbk, hk, mm, sm, kont⟩ := h
    have ok_fewest_splits := fun (T : Txt K mg) => ok_fewest_splits
    have hu : (A.deeper (PyProof.Rows.envOfC "fewest_splits" (defScope s_fewest_splits) s0.heap.objs.size (a_fewest_splits K) cdv)).units + 65 < cLine := by have := hr.un; omega
    refine ⟨_, (pss_cons (ps_set (i := 2) sc_fewest_splits.nd rfl (Or.inr rfl) (pe_callTy call_tuple_of (by rfl) (n_tuple T) (by decide +kernel) (pa_cons (pe_callB (cr_sortLR hr.units) (by rfl) (n_sorted T) (by decide +kernel) (pa_cons (pv 0) pa_nil)) pa_nil))) (pss_cons (ps_if (pt_cmpR op_lt (pe_callB call_len_seq (by rfl) (n_len T) (by decide +kernel) (pa_cons (pv 2) pa_nil)) pe_int (nomark _)) (pss_one (ps_ret pe_int)) pss_nil) (pss_cons (ps_if (pt_cmpR (op_notInN hr.units) (pv 2) (pv 1) (by rfl)) (pss_cons (ps_set (i := 3) sc_fewest_splits.nd rfl (Or.inl rfl) (pe_callB call_len_seq (by rfl) (n_len T) (by decide +kernel) (pa_cons (pv 2) pa_nil))) (pss_cons (ps_set (i := 4) sc_fewest_splits.nd rfl (Or.inl rfl) (pe_listZipS (n := 64) rfl (by rfl) (n_list T) (by rfl) (n_zip T) (pv 2))) (pss_cons (ps_for PassesOwn.never rfl (pi_list (pe_callB (cr_sortR rfl hr.units) (by rfl) (n_sorted T) (by decide +kernel) (pa_cons (pe_callTy (cr_setR rfl hr.units) (by rfl) (n_set T) (by decide +kernel) (pa_cons (pv 4) pa_nil)) pa_nil))) (pg_name (i := 5) sc_fewest_splits.nd rfl (Or.inr rfl)) (pss_cons (ps_setLc (i := 6) (own := [("side", 7)]) (by rfl) sc_fewest_splits.nd rfl rfl (sw_true rfl rfl rfl (by decide +kernel)) (pi_tup (pe_tup (pa_cons (pe_gs (by rfl) (g_IN T)) (pa_cons (pe_gs (by rfl) (g_OUT T)) pa_nil)))) (blkOk_by (own := [("side", 7)]) (N := N_fewest_splits) (sc := defScope s_fewest_splits) (by decide +kernel)) (fun _ _ _ _ _ => (pg_name (i := 7) sc_fewest_splits.nd rfl (Or.inr rfl))) (fun _ _ _ _ _ => pts_nil) (fun _ _ _ _ _ => (pe_lc (own := [("row", 8), ("word", 9)]) (by rfl) sc_fewest_splits.nd (pi_zipAB K (by rfl) (n_zip T) (pa_cons (pv 2) (pa_cons (pv 5) pa_nil))) (blkOk_by (own := [("row", 8), ("word", 9)]) (N := N_fewest_splits) (sc := scSide) (by decide +kernel)) (fun _ _ _ _ _ => (pg_tupB K 2 rfl (pgs_cons (pg_name (i := 8) sc_fewest_splits.nd rfl (Or.inl rfl)) (pgs_cons (pg_name (i := 9) sc_fewest_splits.nd rfl (Or.inl rfl)) pgs_nil)))) (fun _ _ _ _ _ => (pts_one (pt_cmpR op_eq (pv 9) (pv 7) (nomark _)))) (fun _ _ _ _ _ => (pv 8))))) (pss_one (ps_if (pt_cmpR (op_notInD hu) (pe_lst pa_nil) (pv 6) (by rfl)) (pss_one (ps_set (i := 3) sc_fewest_splits.nd rfl (Or.inl rfl) (pe_callB (call_min2 rfl) (by rfl) (n_min T) (by decide +kernel) (pa_cons (pv 3) (pa_cons (pe_op op_addU pe_int (pe_callB (cr_max rfl) (by rfl) (n_max T) (by decide +kernel) (pa_cons (pe_lc (own := [("part", 10)]) (by rfl) sc_fewest_splits.nd (pi_list (pv 6)) (blkOk_by (own := [("part", 10)]) (N := N_fewest_splits) (sc := defScope s_fewest_splits) (by decide +kernel)) (fun _ _ _ _ _ => (pg_name (i := 10) sc_fewest_splits.nd rfl (Or.inl rfl))) (fun _ _ _ _ _ => pts_nil) (fun _ _ _ _ _ => (pe_call (ok_fewest_splits T) hr (by rfl) (g_fewest_splits T) (f_fewest_splits T).kp (b_fewest_splits T) .nil pass0 (pa_cons (pv 10) (pa_cons (pv 1) pa_nil))))) pa_nil))) pa_nil))))) pss_nil)))) (pss_one (ps_asg (pv 3) (pg_sub (pv 1) (pv 2) (set_N hr.units))))))) pss_nil) (pss_one (ps_ret (pe_ix (ix_N hr.units) (pv 1) (pv 2) (fun _ _ => rfl))))))), ?_⟩
    have hsort : ks.mergeSort leR = ks := List.mergeSort_of_pairwise (tp.srt.sublist hks)
    have hk8 : ks.length ≤ 8 := Nat.le_trans hks.length_le tp.len
    have hrow : ∀ p ∈ ks, ∃ f, p.2 = rowB f := fun p hp => tp.row p (hks.subset hp)
    have h64 : ∀ p ∈ ks, p.2.length = 64 := fun p hp => by
      obtain ⟨f, e⟩ := hrow p hp
      rw [e]
      exact rowB_len f
    have hwd : ∀ p ∈ ks, ∀ x ∈ p.2, x = "in" ∨ x = "out" := fun p hp => by
      obtain ⟨f, e⟩ := hrow p hp
      rw [e]
      exact rowB_word f
    have htold : ∀ p ∈ ks, B p.1 = some (.tup (p.2.map V.str)) := fun p hp => tp.told p (hks.subset hp)
    refine ⟨_, rfl, rl, ks, rfl, SqL.of (sm _ _ hrl), fun p hp => ⟨sm _ _ (htold p hp), fun e => by have := h64 p hp; rw [e] at this; cases this⟩, fun s1 hs1 => ?_⟩
    rw [hsort]
    refine ⟨s1, _, rfl, .inl ⟨SqL.of upd_same, fun key hkey => ?_⟩⟩
    have l1 := Gr.lay (M := M0) (o := .lst (ks.map fun p => V.ref p.1)) sm hs1
    have l2 := Gr.lay (M := M0) (o := .tup (ks.map fun p => V.ref p.1)) l1.sub hkey
    have g2 := l1.then0 l2
    have mat : MatAt (upd (upd B s1 (.lst (ks.map fun p => V.ref p.1))) key (.tup (ks.map fun p => V.ref p.1))) key ks := ⟨upd_same, fun p hp => g2.base _ _ (htold p hp)⟩
    generalize upd (upd B s1 (.lst (ks.map fun p => V.ref p.1))) key (.tup (ks.map fun p => V.ref p.1)) = B2 at g2 mat
    have hkH : (upd (upd H s1 (.lst (ks.map fun p => V.ref p.1))) key (.tup (ks.map fun p => V.ref p.1))) key = some (.tup (ks.map fun p => V.ref p.1)) := upd_same
    clear l1 l2
    generalize upd (upd H s1 (.lst (ks.map fun p => V.ref p.1))) key (.tup (ks.map fun p => V.ref p.1)) = H2 at g2 hkH ⊢
    have hk2 := g2.same _ _ hk
    have bk2 := g2.new _ _ hbk hk
    have mm2 := mm.mono g2.base
    have tp2 := tp.mono g2.base
    have hlm : (ks.map fun p => V.ref p.1).length = ks.length := List.length_map ..
    have hls : (ks.map (·.2)).length = ks.length := List.length_map ..
    dsimp only [gName, tSeq]
    refine ifS_b (decide (ks.length < 2)) (fun Q hq => ⟨_, rfl, key, _, rfl, .inr (.inl (.inl hkH)), _, 2, rfl, rfl, _, rfl, ?_⟩) (fun hb => ?_) (fun hb => ?_)
    · rw [show decide (((ks.map fun p => V.ref p.1).length : Int) < 2) = decide (ks.length < 2) from decide_eq_decide.mpr (by rw [hlm]; omega)]
      exact hq
    · have e0 : fewest 64 (ks.map (·.2)) = 0 := fewest_lt (by rw [hls]; exact of_decide_eq_true hb)
      rw [e0] at kont
      exact kont _ _ xs g2.up hk2 mm2
    have h2 : 2 ≤ ks.length := Nat.not_lt.mp (of_decide_eq_false hb)
    dsimp only [tNext, gName, tSeq]
    refine ifS_b (!(atN xs (ks.map (·.2))).isSome) (fun Q hq => ⟨_, rfl, _, rfl, key, kd, ks, xs, rfl, rfl, mat.same g2.sub, hk2, mm2.keys.same g2.sub, _, rfl, hq⟩) (fun hb2 => ?_) (fun hb2 => ?_)
    · have hxsN : atN xs (ks.map (·.2)) = none := by simpa using hb2
      dsimp only [gName, tSeq]
      refine ⟨_, rfl, key, _, rfl, .inr (.inl (.inl hkH)), ?_⟩
      refine ⟨_, rfl, key, ks, rfl, mat.same g2.sub, h2, hk8, h64, by decide, fun H3 l cs s3 hl hcn hcl hct hcc => ?_⟩
      have hcs64 : cs.length = 64 := by
        have := congrArg List.length hcc
        rw [List.length_map, List.length_map, List.length_range] at this
        exact this
      have hcne : ∀ p ∈ cs, p.2 ∈ colsOf 64 (ks.map (·.2)) := fun p hp => by
        have := List.mem_map_of_mem (f := (·.2)) hp
        rw [hcc] at this
        exact this
      have g3 : Gr M0 B2 H2 (tellN B2 H3 fun b => decide (b = l) || (cs.map (·.1)).contains b) H3 := gr_tellN g2.sub s3 fun a ha => by
        rcases Bool.or_eq_true_iff.mp ha with z | z
        · rw [of_decide_eq_true z]; exact hl
        · obtain ⟨p, hp, rfl⟩ := List.mem_map.mp (List.contains_iff_mem.mp z)
          exact hcn p hp
      have hBl : (tellN B2 H3 fun b => decide (b = l) || (cs.map (·.1)).contains b) l = some (.lst (cs.map fun p => V.ref p.1)) := by
        rw [tellN_in (by simp)]; exact hcl
      have hBc : ∀ p ∈ cs, (tellN B2 H3 fun b => decide (b = l) || (cs.map (·.1)).contains b) p.1 = some (.tup (p.2.map V.str)) := fun p hp => by
        rw [tellN_in (by rw [List.contains_iff_mem.mpr (List.mem_map_of_mem hp), Bool.or_true])]; exact hct p hp
      generalize tellN B2 H3 (fun b => decide (b = l) || (cs.map (·.1)).contains b) = B3 at g3 hBl hBc
      refine ⟨_, rfl, l, cs, reps.map (colAt (ks.map (·.2))), rfl, SqL.of hcl, hct, by rw [List.length_map]; decide, fun p hp => ?_, fun sa L hsa hL1 hL2 hL3 => ?_⟩
      · exact cols_few (fun r hr => by obtain ⟨q, hq, rfl⟩ := List.mem_map.mp hr; exact hrow q hq) _ (hcne p hp)
      have l4 := Gr.lay (M := M0) (o := SetRO P w sa L) g3.sub hsa
      refine ⟨sa, L, rfl, upd_same, fun p hp => ⟨l4.same _ _ (hct p (hL1 p hp)), fun e => ?_⟩, fun L' sp pm _ hsp => ?_⟩
      · obtain ⟨j, hj, ej⟩ := mem_cols.mp (hcne p (hL1 p hp))
        rw [e] at ej
        have := congrArg List.length ej
        unfold colAt at this
        rw [List.length_map, List.length_map] at this
        simp only [List.length_nil] at this
        omega
      have l5 := Gr.lay (M := M0) (o := .lst (L'.map fun q => V.ref q.1)) l4.sub hsp
      have g5 := ((g2.then0 g3).then0 l4).then0 l5
      have hcols : ∀ c, c ∈ L'.map (·.2) ↔ c ∈ colsOf 64 (ks.map (·.2)) := fun c => by
        rw [← show cs.map (·.2) = colsOf 64 (ks.map (·.2)) from hcc]
        refine ⟨fun z => ?_, fun z => ?_⟩
        · obtain ⟨p, hp, rfl⟩ := List.mem_map.mp z
          exact List.mem_map_of_mem (hL1 p (pm.mem_iff.mp hp))
        · obtain ⟨p, hp, rfl⟩ := List.mem_map.mp z
          obtain ⟨q, hq, e⟩ := List.mem_map.mp (hL2 p hp)
          rw [← e]
          exact List.mem_map_of_mem (pm.mem_iff.mpr hq)
      have hfold := fewest_eq (n := 64) (rows := ks.map (·.2)) (by rw [hls]; omega) (L'.map (·.2)) hcols
      rw [hls] at hfold
      have hB5c : ∀ p ∈ L', (upd (upd B3 sa (SetRO P w sa L)) sp (.lst (L'.map fun q => V.ref q.1))) p.1 = some (.tup (p.2.map V.str)) := fun p hp => (l4.then0 l5).base _ _ (hBc p (hL1 p (pm.mem_iff.mp hp)))
      have hB5s : (upd (upd B3 sa (SetRO P w sa L)) sp (.lst (L'.map fun q => V.ref q.1))) sp = some (.lst (L'.map fun q => V.ref q.1)) := upd_same
      have mat5 := mat.same ((g3.then0 l4).then0 l5).base
      generalize upd (upd B3 sa (SetRO P w sa L)) sp (.lst (L'.map fun q => V.ref q.1)) = B5 at g5 hB5c hB5s mat5
      clear l4 l5 hL1 hL2 hL3 hBc hBl hcne hcl hct hcn s3 hl
      have hk5 := g5.same _ _ hk
      have bk5 := g5.new _ _ hbk hk
      have mm5 := mm.mono g5.base
      have tp5 := tp.mono g5.base
      have hL'l : (L'.map fun q => V.ref q.1).length = L'.length := List.length_map ..
      refine ⟨sp, rfl, ⟨L'.map fun q => V.ref q.1, SqL.of (g5.sub _ _ hB5s)⟩, ?_⟩
      refine for_it (walk_list (K := K) (a := sp) (xs := L'.map fun q => V.ref q.1)) (fun i σ H' => ∃ (B' : Hp) (xs' : List NE) (x5 x6 : Option V), Gr (fun z => z = kd) B5 (upd (upd H3 sa (SetRO P w sa L)) sp (.lst (L'.map fun q => V.ref q.1))) B' H' ∧ H' kd = some (DNO P w kd xs') ∧ Memo B' K0 xs' ∧
          σ = [some (.ref rl), some (.ref kd), some (.ref key), some (.int (((L'.map (·.2)).take i).foldl (stepC (fewest 64) (ks.map (·.2))) ks.length : Nat)), some (.ref l), x5, x6, none, none, none, none])
        ⟨B5, xs, none, none, Gr.refl g5.sub, hk5, mm5, by rw [show (ks.map fun p => V.ref p.1).length = ks.length from hlm]; rfl⟩ (fun i σ H' hi hv => ?_) (fun i x σ H0' H1' hi hv y => ?_) (fun σ H' hv => ?_)
      · obtain ⟨B', xs', x5, x6, g, _⟩ := hv
        exact SqL.of (g.sub _ _ (g.base _ _ hB5s))
      · obtain ⟨B', xs', x5, x6, g, hk', mm', rfl⟩ := hv
        obtain ⟨rfl, hx⟩ := y
        obtain ⟨q, hq, rfl⟩ : ∃ q, L'[i]? = some q ∧ x = V.ref q.1 := by
          rw [List.getElem?_map] at hx
          cases z : L'[i]? with
          | none => rw [z] at hx; cases hx
          | some q => rw [z] at hx; exact ⟨q, rfl, (Option.some.inj hx).symm⟩
        have hc : (L'.map (·.2))[i]? = some q.2 := by rw [List.getElem?_map, hq]; rfl
        have hqm := List.mem_of_getElem? hq
        have hqB := g.base _ _ (hB5c q hqm)
        have ft := fold_take (stepC (fewest 64) (ks.map (·.2))) (L'.map (·.2)) ks.length hc
        have bk' : B' kd = none := g.new _ _ bk5 hk5
        have m' := mat5.same g.base
        have tp' := tp5.mono g.base
        obtain ⟨j, hj, hqj⟩ := mem_cols.mp ((hcols q.2).mp (List.mem_map_of_mem hqm))
        generalize hbst : ((L'.map (·.2)).take i).foldl (stepC (fewest 64) (ks.map (·.2))) ks.length = bst at ft
        dsimp only [gName, tSeq]
        refine ⟨line_le (show 2 ≤ 1000000 by decide), fun rt hrt => ?_⟩
        have lr := Gr.lay (M := M0) (o := .tup [.str "in", .str "out"]) g.sub hrt
        have hb6 : (upd B' rt (.tup [.str "in", .str "out"])) rt = some (.tup [.str "in", .str "out"]) := upd_same
        generalize upd B' rt (.tup [.str "in", .str "out"]) = B6 at lr hb6
        refine ⟨rt, rfl, ⟨_, .inl (.inl upd_same)⟩, fun D hD => ?_⟩
        have q6 := lr.base _ _ hqB
        have m6 := m'.same lr.base
        refine lc_dat (walk_tup (K := K) (a := rt) (xs := [.str "in", .str "out"])) (M := M0) (B1 := B6) [("in" : Str), "out"] (fun _ => true) (fun r => RV (.str r)) (fun r => rPartL ks q.2 r) (fun _ => mono_v _) (fun r => mono_part _ _ _) ⟨rfl, rfl, trivial⟩ rfl lr.sub hD mok0 (show 2 ≤ 1000000 by decide) (fun B8 H8 g8 => sqT_B g8 (.inl (.inl hb6))) (fun r v B8 H8 hr2 hv g8 Ky Kn ky kn => ?_) (fun zs B8 H8 g8 hz hP2 => ?_)
        · cases hv
          have q8 := g8.base _ _ q6
          have m8 := m6.same g8.base
          refine ⟨rfl, _, rfl, _, rfl, key, q.1, _, _, rfl, .inr ⟨.inl (.inl (g8.sub _ _ m8.1)), .inl (.inl (g8.sub _ _ q8)), fun E hE => ?_⟩⟩
          refine lc_sel (walk_zipT (K := K) (a := key) (b := q.1) (xs := ks.map fun p => V.ref p.1) (ys := q.2.map V.str) (n := (ks.zip q.2).length) (by rw [List.length_zip, List.length_map, List.length_map])) (M := M0) (B1 := B8) (fun i => ((ks.zip q.2)[i]?).bind fun d => if (d.2 == r) = true then some (RV (.ref d.1.1)) else none) g8.sub hE mok0 (line_lt (by rw [List.length_zip]; omega)) (fun B9 H9 g9 => ⟨.inl (.inl (g9.sub _ _ (g9.base _ _ m8.1))), .inl (.inl (g9.sub _ _ (g9.base _ _ q8)))⟩) (fun i R h => ?_) (fun i x B9 H9 H10 hi g9 y Ky2 Kn2 ky2 kn2 => ?_) (fun ys B9 H9 g9 h9 hP => ?_)
          · cases z : (ks.zip q.2)[i]? with
            | none => rw [z] at h; cases h
            | some d =>
              rw [z] at h
              by_cases z2 : (d.2 == r) = true
              · rw [Option.bind_some, if_pos z2] at h; cases h; exact mono_v _
              · rw [Option.bind_some, if_neg z2] at h; cases h
          · obtain ⟨T9, x1, x2, rfl, hT9, rfl, e1, e2⟩ := y
            cases z : (ks.zip q.2)[i]? with
            | none => rw [List.getElem?_eq_getElem hi] at z; cases z
            | some d =>
              obtain ⟨z1, z2⟩ := List.getElem?_zip_eq_some.mp z
              rw [List.getElem?_map, z1] at e1
              rw [List.getElem?_map, z2] at e2
              cases e1
              cases e2
              have g10 := g9.sub
              have l10 := Gr.hid (M := M0) (o := .tup [V.ref d.1.1, V.str d.2]) g9.sub hT9
              refine ⟨T9, _, rfl, .inl (.inl upd_same), rfl, _, _, rfl, _, _, rfl, rfl, rfl, ?_⟩
              refine ⟨_, rfl, _, rfl, rfl, _, rfl, ?_⟩
              by_cases hsd : d.2 = r
              · rw [show decide (V.str d.2 = V.str r) = true from decide_eq_true (by rw [hsd])]
                dsimp only
                rw [if_pos rfl]
                exact ⟨_, rfl, ky2 _ (by rw [z, Option.bind_some, if_pos (by rw [hsd]; exact beq_self_eq_true r)]) _ _ _ l10 rfl⟩
              · rw [show decide (V.str d.2 = V.str r) = false from decide_eq_false fun w => hsd (by injection w)]
                dsimp only
                rw [if_neg (by decide)]
                exact kn2 (by rw [z, Option.bind_some, if_neg (fun w => hsd (eq_of_beq w))]) _ _ l10
          · rw [selN_filter (ks.zip q.2) (fun d => d.2 == r) (fun d => RV (.ref d.1.1))] at hP
            have e := PairR.of_consts (fun d : (Addr × Row) × Str => V.ref d.1.1) hP
            refine ky rfl _ _ _ g9 ⟨E, rfl, ?_⟩
            rw [h9, e]
            unfold partK
            rw [List.map_map]
            rfl
        · rw [filter_all] at hP2
          obtain ⟨z1, z2, rfl⟩ : ∃ z1 z2, zs = [z1, z2] := by
            have := hP2.length
            match zs, this with
            | [z1, z2], _ => exact ⟨z1, z2, rfl⟩
          obtain ⟨⟨p1, rfl, hp1⟩, ⟨p2, rfl, hp2⟩, _⟩ := hP2
          have g9 := lr.then0 g8
          have m8 := m6.same g8.base
          have hD8 := g8.sub _ _ hz
          have hk8 := g9.same _ _ hk'
          have bk8 := g9.new _ _ bk' hk'
          have mm8 := mm'.mono g9.base
          have tp8 := tp'.mono g9.base
          dsimp only [gName, tSeq]
          have hk1 : ∀ p ∈ partK ks q.2 "in", B8 p.1 = some (.tup (p.2.map V.str)) := fun p hp => m8.2 p ((partK_sub _ _ _).subset hp)
          have hk2' : ∀ p ∈ partK ks q.2 "out", B8 p.1 = some (.tup (p.2.map V.str)) := fun p hp => m8.2 p ((partK_sub _ _ _).subset hp)
          have hw : ∀ side : Str, ∀ r : Row, r ∈ (partK ks q.2 side).map (·.2) → ∀ x : Str, x ∈ r → x = "in" ∨ x = "out" := fun side r hr => by
            obtain ⟨p, hp, rfl⟩ := List.mem_map.mp hr
            exact hwd p ((partK_sub _ _ _).subset hp)
          have hspl : (!([dRows ((partK ks q.2 "in").map (·.2)), dRows ((partK ks q.2 "out").map (·.2))].any fun z => PyData.eqv z (.list []))) = !((part (ks.map (·.2)) q.2 "in").isEmpty || (part (ks.map (·.2)) q.2 "out").isEmpty) := by
            rw [← partK_snd, ← partK_snd, List.any_cons, List.any_cons, eqv_nil, eqv_nil, List.any_nil, Bool.or_false]
          have hdp : ∀ a, H8 a = none → Dp K (upd H8 a (.lst [])) (.ref D) (.list [dRows ((partK ks q.2 "in").map (·.2)), dRows ((partK ks q.2 "out").map (·.2))]) := fun a ha =>
            .lst (SqL.of ((Gr.hid (M := M0) g8.sub ha).sub _ _ hz)) (.cons (.lst (SqL.of ((Gr.hid (M := M0) g8.sub ha).sub _ _ hp1)) (dp_rows fun p hp => (Gr.hid (M := M0) g8.sub ha).sub _ _ (hk1 p hp)))
              (.cons (.lst (SqL.of ((Gr.hid (M := M0) g8.sub ha).sub _ _ hp2)) (dp_rows fun p hp => (Gr.hid (M := M0) g8.sub ha).sub _ _ (hk2' p hp))) .nil))
          refine ifS_P (fun H' => spl (ks.map (·.2)) q.2 ∧ ∃ a, H8 a = none ∧ H' = upd H8 a (.lst [])) (fun H' => ¬ spl (ks.map (·.2)) q.2 ∧ ∃ a, H8 a = none ∧ H' = upd H8 a (.lst [])) (fun Qf qt qf => ?_) (fun H' ⟨hs, a, ha, e⟩ => ?_) (fun H' ⟨hs, a, ha, e⟩ => ?_)
          · refine ⟨line_le (Nat.zero_le _), fun a ha => ⟨_, rfl, _, _, .lst (SqL.of upd_same) .nil, hdp a ha, by decide +kernel, shaped_two (hw "in") (hw "out"), _, rfl, ?_⟩⟩
            rw [hspl]
            by_cases hs : spl (ks.map (·.2)) q.2
            · have e : (!((part (ks.map (·.2)) q.2 "in").isEmpty || (part (ks.map (·.2)) q.2 "out").isEmpty)) = true := by
                unfold spl at hs
                simpa [not_or] using hs
              rw [e]
              exact qt _ ⟨hs, a, ha, rfl⟩
            · have e : (!((part (ks.map (·.2)) q.2 "in").isEmpty || (part (ks.map (·.2)) q.2 "out").isEmpty)) = false := by
                unfold spl at hs
                rw [Classical.not_not] at hs
                rcases hs with hs | hs <;> rw [hs] <;> simp
              rw [e]
              exact qf _ ⟨hs, a, ha, rfl⟩
          · subst e
            have l11 := Gr.hid (M := M0) (o := .lst []) g8.sub ha
            have g11 := g9.then0 l11
            have hk11 := g11.same _ _ hk'
            have bk11 := g11.new _ _ bk' hk'
            have hlt := part_lt (rows := ks.map (·.2)) (j := j) (by rw [← hqj]; exact hs)
            rw [← hqj, ← partK_snd, ← partK_snd] at hlt
            simp only [List.length_map] at hlt
            refine ⟨_, rfl, _, rfl, D, rfl, ⟨_, SqL.of (l11.sub _ _ hz)⟩, fun E hE => ?_⟩
            refine lc_inv (walk_list (K := K) (a := D) (xs := [.ref p1, .ref p2])) (M := fun z => z = kd) (B1 := B8) (fun B' H' => ∃ xs9, H' kd = some (DNO P w kd xs9) ∧ Memo B' K0 xs9) (fun i ys _ => ys = ([fewest 64 ((partK ks q.2 "in").map (·.2)), fewest 64 ((partK ks q.2 "out").map (·.2))].take i).map fun n => V.int (n : Nat))
              l11.sub hE (fun z e => by rw [e]; exact ⟨bk11, _, hk11⟩) (line_lt (show 2 ≤ 1000000 by decide)) (fun B9 H9 g9 => SqL.of (g9.sub _ _ (g9.base _ _ hz))) ⟨xs', hk11, mm8⟩ rfl (fun B9 H9 o ⟨xs9, h9, m9⟩ => ⟨xs9, by rw [upd_ne (ne_of_none hk11 hE)]; exact h9, m9⟩) (fun _ _ _ _ _ h => h) (fun i x B9 H9 H10 hi g9' S9 y Ky Kn ky kn => ?_) (fun ys B9 H9 g9' S9 _ hE9 _ hys => ?_)
            · obtain ⟨rfl, hx9⟩ := y
              obtain ⟨xs9, h9, mm9⟩ := S9
              have bk9 := g9'.new _ _ bk11 hk11
              match i, hi, hx9 with
              | 0, _, hx9 =>
                cases hx9
                exact ⟨rfl, _, rfl, _, rfl, hsub (partK ks q.2 "in").length (by omega) _ _ _ _ ⟨B9, p1, kd, partK ks q.2 "in", K0, xs9, rfl, g9'.base _ _ hp1, Nat.le_refl _, (partK_sub _ _ _).trans hks, tp8.mono g9'.base, bk9, h9, mm9, g9'.sub, fun B10 H10 xs10 g10 hk10 mm10 => ky _ _ _ g10 ⟨xs10, hk10, mm10⟩ fun ys e => by rw [e]; rfl⟩⟩
              | 1, _, hx9 =>
                cases hx9
                exact ⟨rfl, _, rfl, _, rfl, hsub (partK ks q.2 "out").length (by omega) _ _ _ _ ⟨B9, p2, kd, partK ks q.2 "out", K0, xs9, rfl, g9'.base _ _ hp2, Nat.le_refl _, (partK_sub _ _ _).trans hks, tp8.mono g9'.base, bk9, h9, mm9, g9'.sub, fun B10 H10 xs10 g10 hk10 mm10 => ky _ _ _ g10 ⟨xs10, hk10, mm10⟩ fun ys e => by rw [e]; rfl⟩⟩
            · obtain ⟨xs9, h9, mm9⟩ := S9
              refine ⟨E, [((fewest 64 ((partK ks q.2 "in").map (·.2)) : Nat) : Int), ((fewest 64 ((partK ks q.2 "out").map (·.2)) : Nat) : Int)], rfl, SqL.of (by rw [hE9, hys]; rfl), Nat.zero_lt_succ _, fun mx h1 h2 => ?_⟩
              refine .inl ⟨1, mx, rfl, rfl, bst, 1 + mx, rfl, ?_⟩
              have hmx : mx = (max (fewest 64 (part (ks.map (·.2)) q.2 "in")) (fewest 64 (part (ks.map (·.2)) q.2 "out")) : Nat) := by
                rw [← partK_snd, ← partK_snd]
                have a1 := h2 _ (List.mem_cons_self ..)
                have a2 := h2 _ (List.mem_cons_of_mem _ (List.mem_cons_self ..))
                rcases List.mem_cons.mp h1 with z | z
                · omega
                · have := List.mem_singleton.mp z
                  omega
              have est : stepC (fewest 64) (ks.map (·.2)) bst q.2 = min bst (1 + max (fewest 64 (part (ks.map (·.2)) q.2 "in")) (fewest 64 (part (ks.map (·.2)) q.2 "out"))) := by
                unfold stepC
                unfold spl at hs
                rw [if_neg hs]
              have hval : (if 1 + mx < (bst : Int) then 1 + mx else (bst : Int)) = ((stepC (fewest 64) (ks.map (·.2)) bst q.2 : Nat) : Int) := by
                rw [est, hmx]
                split <;> omega
              refine ⟨B9, xs9, some (.ref q.1), some (.ref D), Gr.trans (fun z e => by rw [e]; exact ⟨bk5, _, hk5⟩) g (Gr.trans (fun z e => by rw [e]; exact ⟨bk', _, hk'⟩) g11.up g9'), h9, mm9, ?_⟩
              rw [ft, ← hval]
              rfl
          · subst e
            have l11 := Gr.hid (M := M0) (o := .lst []) g8.sub ha
            have g11 := g9.then0 l11
            have est : stepC (fewest 64) (ks.map (·.2)) bst q.2 = bst := by
              unfold stepC
              unfold spl at hs
              rw [Classical.not_not] at hs
              rw [if_pos hs]
            refine ⟨B8, xs', some (.ref q.1), some (.ref D), Gr.trans (fun z e => by rw [e]; exact ⟨bk5, _, hk5⟩) g g11.up, g11.same _ _ hk', mm8, ?_⟩
            rw [ft, est]
            rfl
      · obtain ⟨B', xs', x5, x6, g, hk', mm', rfl⟩ := hv
        rw [hL'l, ← show (L'.map (·.2)).length = L'.length from List.length_map .., List.take_length, ← hfold]
        have hml := mm'.len tp.len
        obtain ⟨mm6, hat⟩ := mm'.put (mat5.same g.base) hks
        have g6 : Gr (fun z => z = kd) B H B' H' := Gr.trans (fun z e => by rw [e]; exact ⟨hbk, _, hk⟩) g5.up g
        have bk' : B' kd = none := g6.new _ _ hbk hk
        have m6 := (mat5.same g.base).same g.sub
        refine ⟨_, rfl, _, rfl, _, rfl, key, kd, ks, xs', rfl, rfl, m6, hk', mm'.keys.same g.sub, line_lt (by omega), ?_⟩
        have g7 : Gr (fun z => z = kd) B H B' (upd H' kd (DNO P w kd (putN xs' (ks.map (·.2)) key (.int (fewest 64 (ks.map (·.2))))))) := g6.mut bk' (.inr rfl)
        refine ⟨_, rfl, _, rfl, key, kd, ks, _, _, rfl, rfl, (mat5.same g.base).same g7.sub, upd_same, mm6.keys.same g7.sub, hat, ?_⟩
        exact kont _ _ _ g7 upd_same mm6
    · obtain ⟨v, hv⟩ : ∃ v, atN xs (ks.map (·.2)) = some v := Option.isSome_iff_exists.mp (by simpa using hb2)
      obtain ⟨x, hx, e1, e2⟩ := atN_mem hv
      have ev : v = .int (fewest 64 (ks.map (·.2))) := by rw [← e2, mm.vals x hx, e1]
      refine ⟨_, rfl, _, rfl, key, kd, ks, xs, v, rfl, rfl, mat.same g2.sub, hk2, mm2.keys.same g2.sub, hv, ?_⟩
      rw [ev]
      exact kont _ _ xs g2.up hk2 mm2
theorem sp_splits_le {m m' : Nat} (h : m' ≤ m) {vs : List V} {H : Hp} {Q : VK} {E : XK} (k : sp_splits P w K m' vs H Q E) : sp_splits P w K m vs H Q E := by
  obtain ⟨B, rl, kd, ks, K0, xs, a1, a2, a3, a4⟩ := k
  exact ⟨B, rl, kd, ks, K0, xs, a1, a2, Nat.le_trans a3 h, a4⟩
theorem ok_splits_all (T : Txt K mg) : ∀ m : Nat, FnOk P w K mg base CX0 (m + 2) (a_fewest_splits K) (fdOf K (a_fewest_splits K)) ["rows", "known"] (sp_splits P w K m)
  | 0 => splits_gen T (k := 1) (sub := fun _ _ _ _ => False) ((f_fewest_splits T).ok sc_fewest_splits (fun _ _ _ _ h => h.elim) (fun _ _ _ _ _ _ _ _ _ h => h.elim)) (fun _ h => absurd h (Nat.not_lt_zero _))
  | m + 1 => splits_gen T (k := m + 2) (ok_splits_all T m) (fun m' hm vs H Q E h => sp_splits_le (by omega) h)
end
end Lg
/-! D38 -/
set_option maxHeartbeats 1000000
namespace Lg
open PySem L2
section
variable {P : Program} {w : World} {K : PySem.W.Frag} {mg : Str → Option Value} {base : Heap}
/-- a row, told -/
def rRowT (r : Row) : Rp := fun v B => ∃ q, v = .ref q ∧ B q = some (.tup (r.map V.str))
theorem mono_rowT (r : Row) : Mono (rRowT r) := fun _ _ _ s ⟨q, e, h⟩ => ⟨q, e, s _ _ h⟩
theorem pr_rowT {B : Hp} : ∀ {rows : List Row} {ys : List V}, PairR (rows.map rRowT) ys B → ∃ ks : List (Addr × Row), ys = ks.map (fun p => V.ref p.1) ∧ ks.map (·.2) = rows ∧ ∀ p ∈ ks, B p.1 = some (.tup (p.2.map V.str))
  | [], [], _ => ⟨[], rfl, rfl, fun _ h => nomatch h⟩
  | r :: rows, y :: ys, h => by
    obtain ⟨⟨q, rfl, hq⟩, ht⟩ := h
    obtain ⟨ks, rfl, e, k⟩ := pr_rowT ht
    exact ⟨(q, r) :: ks, rfl, by rw [List.map_cons, e], fun p hp => by
      rcases List.mem_cons.mp hp with rfl | hp
      · exact hq
      · exact k p hp⟩
  | [], _ :: _, h => h.elim
  | _ :: _, [], h => h.elim
theorem ok_Prober_fewest_runs (T : Txt K mg) : FnOk P w K mg base CX0 11 (a_Prober_fewest_runs K) (fdOf K (a_Prober_fewest_runs K)) ["self"] (sp_Prober_fewest K) := by
  have ok_fewest_splits := fun (T : Txt K mg) => ok_splits_all (P := P) (w := w) (base := base) T 8
  refine (f_Prober_fewest_runs T).ok sc_Prober_fewest_runs (fun vs H Q E h => ?_) (fun cdv A outer s0 H vs Q E hr h => ?_)
  · obtain ⟨B, p, rfl, _⟩ := h
    rfl
  · obtain ⟨B, p, rfl, hp, sm, k⟩ := h
    refine ⟨_, (pss_cons (ps_set (i := 1) sc_Prober_fewest_runs.nd rfl (Or.inl rfl) (pe_callB (cr_sortR rfl hr.units) (by rfl) (n_sorted T) (by decide +kernel) (pa_cons (pe_callTy (cr_setR rfl hr.units) (by rfl) (n_set T) (by decide +kernel) (pa_cons (pe_lc (own := [("candidate", 2), ("row", 3)]) (by rfl) sc_Prober_fewest_runs.nd (pi_list (pe_fld (pv 0) rfl)) (blkOk_by (own := [("candidate", 2), ("row", 3)]) (N := N_Prober_fewest_runs) (sc := defScope s_Prober_fewest_runs) (by decide +kernel)) (fun _ _ _ _ _ => (pg_tupB K 2 rfl (pgs_cons (pg_name (i := 2) sc_Prober_fewest_runs.nd rfl (Or.inl rfl)) (pgs_cons (pg_name (i := 3) sc_Prober_fewest_runs.nd rfl (Or.inl rfl)) pgs_nil)))) (fun _ _ _ _ _ => pts_nil) (fun _ _ _ _ _ => (pv 3))) pa_nil)) pa_nil))) (pss_cons (ps_if (pt_cmpR op_gt (pe_callB call_len_seq (by rfl) (n_len T) (by decide +kernel) (pa_cons (pv 1) pa_nil)) (pe_gi (by rfl) (g_MOST_KINDS T)) (nomark _)) (pss_one ps_never) pss_nil) (pss_one (ps_ret (pe_call (ok_fewest_splits T) hr (by rfl) (g_fewest_splits T) (f_fewest_splits T).kp (b_fewest_splits T) .nil pass0 (pa_cons (pv 1) (pa_cons pe_dnewN pa_nil))))))), ?_⟩
    obtain ⟨dx, ow, ch, lf, fc, hI, ll, ls, rfl, hll, hlP⟩ := hp
    have hlen : ls.length = 64 := by
      have := hlP.length
      rw [List.length_map] at this
      rw [← this]
      decide +kernel
    refine ⟨_, rfl, p, _, dx, _, _, rfl, hI, cl_Prober T, na_Prober_left T, rfl, ll, rfl, ⟨ls, SqL.of (sm _ _ hll)⟩, fun D hD => ?_⟩
    refine lc_dat (walk_list (K := K) (a := ll) (xs := ls)) (M := M0) (B1 := B) (allAns hidN) (fun _ => true) (rCand K) (fun c => rRowT (rowOf eight c)) mono_cand (fun _ => mono_rowT _) hlP rfl sm hD mok0 (by decide +kernel) (fun B2 H2 g => SqL.of (g.sub _ _ (g.base _ _ hll))) (fun c x B2 H2 hc hx g Ky Kn ky kn => ?_) (fun ys B2 H2 g hz hP => ?_)
    · obtain ⟨t, d, q, rfl, ht, hd, hq⟩ := hx
      exact ⟨t, _, rfl, sqT_same g.sub ht, rfl, _, _, rfl, _, _, rfl, rfl, rfl, _, rfl, ky rfl _ _ _ (Gr.refl g.sub) ⟨q, rfl, hq⟩⟩
    rw [filter_all] at hP
    obtain ⟨ks, rfl, hks, hkt⟩ := pr_rowT (rows := rows64) (by unfold rows64; rw [List.map_map]; exact hP)
    have hmem : ∀ q ∈ ks, q.2 ∈ rows64 := fun q hq => by rw [← hks]; exact List.mem_map_of_mem hq
    refine ⟨D, ks, flags.map rowB, rfl, SqL.of (g.sub _ _ hz), fun q hq => g.sub _ _ (hkt q hq), by decide, fun q hq => ?_, fun a L ha hL1 hL2 hL3 => ?_⟩
    · obtain ⟨f, hf⟩ := (mem_rows64 _).mp (hmem q hq)
      rw [hf]
      exact List.mem_map_of_mem (mem_flags f)
    have l4 := Gr.lay (M := M0) (o := SetRO P w a L) g.sub ha
    refine ⟨a, L, rfl, upd_same, fun q hq => ⟨l4.sub _ _ (l4.base _ _ (hkt q (hL1 q hq))), fun e => ?_⟩, fun L' sp pm hso hsp => ?_⟩
    · obtain ⟨f, hf⟩ := (mem_rows64 _).mp (hmem q (hL1 q hq))
      have := rowB_len f
      rw [← hf, e] at this
      cases this
    have l5 := Gr.lay (M := M0) (o := .lst (L'.map fun q => V.ref q.1)) l4.sub hsp
    have g5 := (g.then0 l4).then0 l5
    have h64 : ∀ r, r ∈ L'.map (·.2) ↔ r ∈ rows64 := fun r => by
      refine ⟨fun z => ?_, fun z => ?_⟩
      · obtain ⟨q, hq, rfl⟩ := List.mem_map.mp z
        exact hmem q (hL1 q (pm.mem_iff.mp hq))
      · rw [← hks] at z
        obtain ⟨q, hq, rfl⟩ := List.mem_map.mp z
        obtain ⟨q2, hq2, e⟩ := List.mem_map.mp (hL2 q hq)
        rw [← e]
        exact List.mem_map_of_mem (pm.mem_iff.mpr hq2)
    have nd : (L'.map (·.2)).Nodup := (pm.map _).nodup_iff.mpr hL3
    have h8 : L'.length = 8 := by rw [← kinds_len nd h64, List.length_map]
    have hf3 := fewest_eight nd h64
    dsimp only [gName, tSeq]
    refine ifS_b false (fun Q hq => ⟨_, rfl, sp, _, rfl, .inl (SqL.of upd_same), _, 8, rfl, rfl, _, rfl, ?_⟩) (fun hb => nomatch hb) (fun _ => ?_)
    · rw [List.length_map, h8]; exact hq
    · refine ⟨_, rfl, fun d hd => ?_⟩
      have l6 := Gr.hid (M := M0) (o := DNO P w d []) l5.sub hd
      refine ⟨_, sp, d, L', L', [], rfl, upd_same, by omega, .refl _, ⟨hso, by omega, fun q hq => (mem_rows64 _).mp ((h64 _).mp (List.mem_map_of_mem hq)), fun q hq => l5.base _ _ (l4.base _ _ (hkt q (hL1 q (pm.mem_iff.mp hq))))⟩, l5.sub.free hd, upd_same, ⟨fun _ z => (nomatch z), fun _ z => (nomatch z), List.nodup_nil, fun _ z => (nomatch z)⟩, l6.sub, fun B7 H7 xs7 g7 _ _ => ?_⟩
      rw [hf3]
      exact k _ _ _ (Gr.trans' (g5.then0 l6) g7 fun z e => .inr (by rw [e]; exact g5.there' hd)) rfl
end
end Lg
/-! LgE -/
set_option maxHeartbeats 0
namespace Lg
open PySem L2
theorem law_at {w : World} {K : PySem.W.Frag} {h : Heap} {mg : Str → Option Value} {fa : Addr} (KX : K.In h) (G : h.Ns mainGlobals mg) (hmg : mg ("law" : Str) = some (.ref fa)) (c : SaysH w h K) :
    LamX.LawAtS PySem.Challenge.rw_loginstacks_k74_whole_promises_kept w K CX0 16 63 "_law_script" mg fa h := by
  have T : Txt K mg := ⟨⟨h, KX, G⟩, (He.ba (congrArg (fun z : AlF => z.1) c.f)).1, congrArg (fun z : AlF => z.2) c.f, (He.ba (congrArg (fun z : AlF => z.1) c.f)).2⟩
  have S := He.dicW_ok c.t
  have e := hmg.symm.trans (g_law T)
  cases e
  refine ⟨fdOf K (a_law K), [He.cT K lawP], sp_law K (He.cT K lawP).2, fun p hp => ?_, fun p hp => ?_, fun p hp => ?_, fun s u => ?_, fun H a ns _ _ hT hS => ?_, fun base _ _ TB => ?_⟩
  · rw [List.mem_singleton.mp hp]; exact c.empty
  · rw [List.mem_singleton.mp hp]; exact c.out
  · rw [List.mem_singleton.mp hp]; exact PySem.W.codeHd_of_K KX c.hd
  · obtain ⟨oc, od, kV, doc, pm, an, cdv, ct, osl, hfd, lk, hcd⟩ := (f_law T).ex
    rw [hfd]
    exact .of_eq rfl
  · exact ⟨a, ns, rfl, hS, hT _ (List.mem_singleton_self _), fun _ => rfl⟩
  · exact ok_law T S (TB _ (List.mem_singleton_self _)) c.e (k := 0) ((ok_Prober_init T).mono (by decide)) ((ok_Prober_kinds T).mono (by decide)) ((ok_Prober_fewest_runs T).mono (by decide))
end Lg
open PySem PySem.W PySem.Calls PyProof.Rows
theorem PySem.Challenge.cw_loginstacks_k74_whole_promises_kept_holds : PySem.Challenge.rw_loginstacks_k74_whole_promises_kept.Holds := by
  w_on; o_law
  refine HandSHeadRun.head_any (r := OpenLaw.row PySem.Challenge.rw_loginstacks_k74_whole_promises_kept) (q := Lg.qv) (H := Lg.hk) (ob := Lg.ob) (M := 20000) (loose := Lg.names) (d := HandSHeadRun.topDef (OpenLaw.row PySem.Challenge.rw_loginstacks_k74_whole_promises_kept).prog 99) (kwd := []) Lg.ob_eq
    (by kernel_rfl) (fun s => by kernel_rfl) Lg.run_all (by kernel_rfl) (by kernel_rfl) (by kernel_rfl) (by rfl) (by first | assumption | decide +kernel) (by decide +kernel) ⟨rfl, rfl, rfl, rfl, rfl, by decide +kernel⟩ ?hw ?hc
  case hw => w_witness2
  case hc =>
    refine LamX.walk_ofTsE (l := PySem.Challenge.rw_loginstacks_k74_whole_promises_kept) (n := 63) (k := 16) (x := "_law_script") (CX := fun _ => L2.CX0) rfl (by decide) (by kernel_rfl) ⟨rfl, by decide, by decide⟩ ?F (fun _ _ _ _ _ z => z)
    intro w mg fa h Y G hmg0
    obtain ⟨K, KX, c⟩ := Y
    have hmg : mg ("law" : PySem.Str) = some (.ref fa) := by
      have e : (HandSHeadRun.topDef (OpenLaw.row PySem.Challenge.rw_loginstacks_k74_whole_promises_kept).prog 99).name = ("law" : PySem.Str) := by kernel_rfl
      rw [← e]
      exact hmg0
    exact ⟨K, KX, Lg.law_at KX G hmg c⟩
