import PyProof.Rows.All
import Wide.All
import OpenK.AllK
import Wide.FinOn
import HandS.ForMost
import HandS.ForExc
import HandS.CallSlots
import KE.GoesComp
import KE.GoesRaise
import KE.KExcSuper
import HandS.ExcSuper
import HandS.IsInst
import HandS.DictComp
import HandS.Wide
import HandS.More
import HandS.Defaults
import HandS.RaiseMore
import HandS.Text
import HandS.NoneIn
import HandS.CallLocal
import HandS.WordsDict
import HandS.Walk
import HandS.ExcOwn
import HandS.ExcCtx
import PyProof.FitsReplace
import KE.KIsAll
import PyProof.ReprRoads
import PyProof.ReprLen
import KE.KStateDown
import HandS.Words
import HandS.WordsExc
import HandS.Head0
import HandS.Head1
import HandS.Head2
import HandS.HeadEnd
import HandS.HeadHook1
import HandS.HeadHook2
import HandS.HeadHook3
import HandS.HeadHook4
import PySem.Challenge.RW_viewloom_k19_whole_expressions
set_option Elab.async false
set_option linter.all false
set_option maxRecDepth 100000
set_option maxHeartbeats 4000000
/-! values, expressions, what an expression is worth: plain data; how the abstract heap bears them -/
namespace Vk
open PySem PySem.Spec PyProof.Rows L2

/-! ### values -/
inductive Dat where
  | non | bl (b : Bool) | int (i : Int) | str (x : Str) | lst (ds : List Dat) | rcd (ks : List Str) (ds : List Dat) | act (o : Int) (n : Str) (ds : List Dat)
inductive Kd where
  | null | boolean | number | text | list | record | act
  deriving DecidableEq
def Kd.s : Kd → Str
  | .null => "null" | .boolean => "boolean" | .number => "number" | .text => "text" | .list => "list" | .record => "record" | .act => "act"
def Dat.kd : Dat → Kd
  | .non => .null | .bl _ => .boolean | .int _ => .number | .str _ => .text | .lst _ => .list | .rcd _ _ => .record | .act _ _ _ => .act
def Dat.parts : Dat → List Dat
  | .lst ds => ds | .rcd _ ds => ds | .act _ _ ds => ds | _ => []
mutual
def Dat.dep : Dat → Nat
  | .lst ds => depL ds + 1 | .rcd _ ds => depL ds + 1 | .act _ _ ds => depL ds + 1 | .non => 1 | .bl _ => 1 | .int _ => 1 | .str _ => 1
def depL : List Dat → Nat
  | [] => 0 | d :: r => max d.dep (depL r)
end
def lens (ks : List Str) : Nat := (ks.map (·.length)).sum
mutual
def Dat.sz : Dat → Nat
  | .lst ds => 1 + szL ds | .rcd ks ds => 1 + lens ks + szL ds | .act _ n ds => 1 + n.length + szL ds | .non => 1 | .bl _ => 1 | .int _ => 1 | .str x => 1 + x.length
def szL : List Dat → Nat
  | [] => 0 | d :: r => d.sz + szL r
end
def big30 : Int := 1000000000000000000000000000000
/-- the value at a name -/
def lookK : List Str → List Dat → Str → Option Dat
  | k :: ks, d :: ds, x => if k = x then some d else lookK ks ds x
  | _, _, _ => none
/-- a text that may stand as a name: not long, its signs are signs -/
def KeyOk (k : Str) : Prop := k.length ≤ 5000 ∧ (k.cps.all fun c => decide (c < 0x110000)) = true
/- numbers within the bound, names differ -/
mutual
def Dat.WD : Dat → Prop
  | .int i => -big30 ≤ i ∧ i ≤ big30 | .lst ds => ds.length ≤ 5000 ∧ WDL ds | .rcd ks ds => ks.Nodup ∧ ks.length = ds.length ∧ ks.length ≤ 60 ∧ (∀ k ∈ ks, KeyOk k) ∧ WDL ds
  | .act o n ds => (-big30 ≤ o ∧ o ≤ big30) ∧ n.length ≤ 5000 ∧ ds.length ≤ 5000 ∧ WDL ds | .str x => x.length ≤ 5000 | .non => True | .bl _ => True
def WDL : List Dat → Prop
  | [] => True | d :: r => d.WD ∧ WDL r
end
theorem WDL.mem : ∀ {ds : List Dat} {d : Dat}, WDL ds → d ∈ ds → d.WD
  | _ :: _, _, h, m => (List.mem_cons.mp m).elim (fun e => e ▸ h.1) fun m => WDL.mem h.2 m
theorem dep_mem : ∀ {ds : List Dat} {d : Dat}, d ∈ ds → d.dep ≤ depL ds
  | c :: r, d, m => (List.mem_cons.mp m).elim (fun e => by rw [e, depL]; exact Nat.le_max_left _ _) fun m => Nat.le_trans (dep_mem m) (by rw [depL]; exact Nat.le_max_right _ _)
theorem WDL.parts {d : Dat} (h : d.WD) : WDL d.parts := by
  cases d with
  | lst ds => exact h.2
  | rcd ks ds => exact h.2.2.2.2
  | act o n ds => exact h.2.2.2
  | _ => exact trivial
theorem parts_len {d : Dat} (h : d.WD) : d.parts.length ≤ 5000 := by
  cases d with
  | lst ds => exact h.1
  | rcd ks ds =>
    have h1 := h.2.1
    have h2 := h.2.2.1
    show ds.length ≤ 5000
    omega
  | act o n ds => exact h.2.2.1
  | _ => exact Nat.zero_le _
theorem dep_part {d e : Dat} (m : e ∈ d.parts) : e.dep + 1 ≤ d.dep := by
  cases d with
  | lst ds => rw [Dat.dep]; exact Nat.succ_le_succ (dep_mem m)
  | rcd ks ds => rw [Dat.dep]; exact Nat.succ_le_succ (dep_mem m)
  | act o n ds => rw [Dat.dep]; exact Nat.succ_le_succ (dep_mem m)
  | _ => cases m
theorem dep_pos (d : Dat) : 1 ≤ d.dep := by cases d <;> rw [Dat.dep] <;> omega
/-- a value of the language as it comes: its depth, its size -/
structure Bd (d : Dat) : Prop where
  dep : d.dep ≤ 20
  sz : d.sz ≤ 2001
  wd : d.WD
mutual
def sameD : Dat → Dat → Bool
  | .non, .non => true
  | .bl a, .bl b => a == b
  | .int a, .int b => a == b
  | .str a, .str b => decide (a = b)
  | .lst a, .lst b => sameL a b
  | .rcd ks a, .rcd ls b => (ks.length == ls.length) && sameF ks a ls b
  | .act o n a, .act p m b => (o == p) && (decide (n = m) && sameL a b)
  | _, _ => false
def sameL : List Dat → List Dat → Bool
  | [], [] => true
  | a :: r, b :: t => sameD a b && sameL r t
  | _, _ => false
def sameF : List Str → List Dat → List Str → List Dat → Bool
  | k :: ks, a :: r, ls, b => (match lookK ls b k with | some v => sameD a v | none => false) && sameF ks r ls b
  | _, _, _, _ => true
end

/-! ### the heap bears a value -/
mutual
inductive Rep (H : Hp) : V → Dat → Prop
  | non : Rep H .non .non
  | bl (b : Bool) : Rep H (.bl b) (.bl b)
  | int (i : Int) : Rep H (.int i) (.int i)
  | str (x : Str) : Rep H (.str x) (.str x)
  | lst {a : Addr} {vs : List V} {ds : List Dat} (h : H a = some (.lst vs)) (r : Reps H vs ds) : Rep H (.ref a) (.lst ds)
  | rcd {a : Addr} {kvs : List (Key × V)} {ks : List Str} {ds : List Dat} (h : Rd H a (.dK kvs)) (k : kvs.map (·.1) = ks.map Sum.inr) (r : Reps H (kvs.map (·.2)) ds) : Rep H (.ref a) (.rcd ks ds)
  | act {a b : Addr} {o : Int} {n : Str} {vs : List V} {ds : List Dat} (h : H a = some (.tup [.str "act", .int o, .str n, .ref b])) (h2 : H b = some (.lst vs)) (r : Reps H vs ds) : Rep H (.ref a) (.act o n ds)
inductive Reps (H : Hp) : List V → List Dat → Prop
  | nil : Reps H [] []
  | cons {v : V} {d : Dat} {vs : List V} {ds : List Dat} (h : Rep H v d) (r : Reps H vs ds) : Reps H (v :: vs) (d :: ds)
end
/-- what may be read stays (a dict may be locked meanwhile) -/
structure RdSame (H H' : Hp) : Prop where
  lst : ∀ a vs, H a = some (.lst vs) → H' a = some (.lst vs)
  tup : ∀ a vs, H a = some (.tup vs) → H' a = some (.tup vs)
  dic : ∀ a kvs, Rd H a (.dK kvs) → Rd H' a (.dK kvs)
theorem rds_of {H H' : Hp} (s : Same H H') : RdSame H H' := ⟨fun a _ h => s a _ h, fun a _ h => s a _ h, fun a _ h => h.elim (fun q => .inl (s a _ q)) fun ⟨o, q⟩ => .inr ⟨o, s a _ q⟩⟩
theorem RdSame.refl (H : Hp) : RdSame H H := ⟨fun _ _ h => h, fun _ _ h => h, fun _ _ h => h⟩
theorem RdSame.trans {H H1 H2 : Hp} (a : RdSame H H1) (b : RdSame H1 H2) : RdSame H H2 := ⟨fun x u h => b.lst x u (a.lst x u h), fun x u h => b.tup x u (a.tup x u h), fun x u h => b.dic x u (a.dic x u h)⟩
theorem rds_lock {H : Hp} {d : Addr} {od : Obj} {kvs : List (Key × V)} (h : H d = some (.dK kvs)) : RdSame H (upd H d (.frz od (.dK kvs))) := by
  refine ⟨fun a vs e => ?_, fun a vs e => ?_, fun a ks e => ?_⟩
  · rw [upd_ne (ne_of e h (by intro z; cases z))]
    exact e
  · rw [upd_ne (ne_of e h (by intro z; cases z))]
    exact e
  · by_cases ha : a = d
    · subst ha
      rcases e with e | ⟨o, e⟩
      · rw [h] at e
        cases e
        exact .inr ⟨od, upd_same⟩
      · rw [h] at e
        cases e
    · rcases e with e | ⟨o, e⟩
      · exact .inl ((upd_ne ha).trans e)
      · exact .inr ⟨o, (upd_ne ha).trans e⟩
mutual
theorem Rep.mono {H H' : Hp} (s : RdSame H H') : ∀ {v : V} {d : Dat}, Rep H v d → Rep H' v d
  | _, _, .non => .non
  | _, _, .bl b => .bl b
  | _, _, .int i => .int i
  | _, _, .str x => .str x
  | _, _, .lst h r => .lst (s.lst _ _ h) (Reps.mono s r)
  | _, _, .rcd h k r => .rcd (s.dic _ _ h) k (Reps.mono s r)
  | _, _, .act h h2 r => .act (s.tup _ _ h) (s.lst _ _ h2) (Reps.mono s r)
theorem Reps.mono {H H' : Hp} (s : RdSame H H') : ∀ {vs : List V} {ds : List Dat}, Reps H vs ds → Reps H' vs ds
  | _, _, .nil => .nil
  | _, _, .cons h r => .cons (Rep.mono s h) (Reps.mono s r)
end
theorem Reps.length {H : Hp} : ∀ {vs : List V} {ds : List Dat}, Reps H vs ds → vs.length = ds.length
  | _, _, .nil => rfl
  | _, _, .cons _ r => congrArg (· + 1) r.length
theorem Reps.get {H : Hp} : ∀ {vs : List V} {ds : List Dat} {i : Nat} {v : V}, Reps H vs ds → vs[i]? = some v → ∃ d, ds[i]? = some d ∧ Rep H v d
  | _, _, 0, _, .cons h _, e => by
    simp only [List.getElem?_cons_zero, Option.some.injEq] at e
    subst e
    exact ⟨_, rfl, h⟩
  | _, _, i + 1, v, .cons _ r, e => by
    simp only [List.getElem?_cons_succ] at e ⊢
    exact Reps.get r e
theorem Reps.app {H : Hp} : ∀ {vs ws : List V} {ds es : List Dat}, Reps H vs ds → Reps H ws es → Reps H (vs ++ ws) (ds ++ es)
  | _, _, _, _, .nil, s => s
  | _, _, _, _, .cons h r, s => .cons h (Reps.app r s)

/-! ### the heap bears a value of its own: the objects in it are F's, one by one -/
mutual
inductive Own (H : Hp) : V → Dat → List Addr → Prop
  | non : Own H .non .non []
  | bl (b : Bool) : Own H (.bl b) (.bl b) []
  | int (i : Int) : Own H (.int i) (.int i) []
  | str (x : Str) : Own H (.str x) (.str x) []
  | lst {a : Addr} {vs : List V} {ds : List Dat} {F : List Addr} (h : H a = some (.lst vs)) (r : Owns H vs ds F) : Own H (.ref a) (.lst ds) (a :: F)
  | rcd {a : Addr} {kvs : List (Key × V)} {ks : List Str} {ds : List Dat} {F : List Addr} (h : H a = some (.dK kvs)) (k : kvs.map (·.1) = ks.map Sum.inr) (r : Owns H (kvs.map (·.2)) ds F) : Own H (.ref a) (.rcd ks ds) (a :: F)
  | act {a b : Addr} {o : Int} {n : Str} {vs : List V} {ds : List Dat} {F : List Addr} (h : H a = some (.tup [.str "act", .int o, .str n, .ref b])) (h2 : H b = some (.lst vs)) (r : Owns H vs ds F) : Own H (.ref a) (.act o n ds) (a :: b :: F)
inductive Owns (H : Hp) : List V → List Dat → List Addr → Prop
  | nil : Owns H [] [] []
  | cons {v : V} {d : Dat} {vs : List V} {ds : List Dat} {F G : List Addr} (h : Own H v d F) (r : Owns H vs ds G) : Owns H (v :: vs) (d :: ds) (F ++ G)
end
mutual
theorem Own.rep {H : Hp} : ∀ {v : V} {d : Dat} {F : List Addr}, Own H v d F → Rep H v d
  | _, _, _, .non => .non
  | _, _, _, .bl b => .bl b
  | _, _, _, .int i => .int i
  | _, _, _, .str x => .str x
  | _, _, _, .lst h r => .lst h (Owns.rep r)
  | _, _, _, .rcd h k r => .rcd (.inl h) k (Owns.rep r)
  | _, _, _, .act h h2 r => .act h h2 (Owns.rep r)
theorem Owns.rep {H : Hp} : ∀ {vs : List V} {ds : List Dat} {F : List Addr}, Owns H vs ds F → Reps H vs ds
  | _, _, _, .nil => .nil
  | _, _, _, .cons h r => .cons (Own.rep h) (Owns.rep r)
end
mutual
theorem Own.at {H H' : Hp} : ∀ {v : V} {d : Dat} {F : List Addr}, Own H v d F → (∀ a ∈ F, H' a = H a) → Own H' v d F
  | _, _, _, .non, _ => .non
  | _, _, _, .bl b, _ => .bl b
  | _, _, _, .int i, _ => .int i
  | _, _, _, .str x, _ => .str x
  | _, _, _, .lst h r, e => .lst ((e _ List.mem_cons_self).trans h) (Owns.at r fun a ha => e a (List.mem_cons_of_mem _ ha))
  | _, _, _, .rcd h k r, e => .rcd ((e _ List.mem_cons_self).trans h) k (Owns.at r fun a ha => e a (List.mem_cons_of_mem _ ha))
  | _, _, _, .act h h2 r, e => .act ((e _ List.mem_cons_self).trans h) ((e _ (List.mem_cons_of_mem _ List.mem_cons_self)).trans h2) (Owns.at r fun a ha => e a (List.mem_cons_of_mem _ (List.mem_cons_of_mem _ ha)))
theorem Owns.at {H H' : Hp} : ∀ {vs : List V} {ds : List Dat} {F : List Addr}, Owns H vs ds F → (∀ a ∈ F, H' a = H a) → Owns H' vs ds F
  | _, _, _, .nil, _ => .nil
  | _, _, _, .cons h r, e => .cons (Own.at h fun a ha => e a (List.mem_append_left _ ha)) (Owns.at r fun a ha => e a (List.mem_append_right _ ha))
end
/- every object of it is tracked -/
mutual
theorem Own.there {H : Hp} : ∀ {v : V} {d : Dat} {F : List Addr}, Own H v d F → ∀ a ∈ F, ∃ o, H a = some o
  | _, _, _, .non, _, h => by cases h
  | _, _, _, .bl b, _, h => by cases h
  | _, _, _, .int i, _, h => by cases h
  | _, _, _, .str x, _, h => by cases h
  | _, _, _, .lst h r, a, ha => (List.mem_cons.mp ha).elim (fun e => ⟨_, (congrArg H e).trans h⟩) fun m => Owns.there r a m
  | _, _, _, .rcd h k r, a, ha => (List.mem_cons.mp ha).elim (fun e => ⟨_, (congrArg H e).trans h⟩) fun m => Owns.there r a m
  | _, _, _, .act h h2 r, a, ha => (List.mem_cons.mp ha).elim (fun e => ⟨_, (congrArg H e).trans h⟩) fun m => (List.mem_cons.mp m).elim (fun e => ⟨_, (congrArg H e).trans h2⟩) fun m => Owns.there r a m
theorem Owns.there {H : Hp} : ∀ {vs : List V} {ds : List Dat} {F : List Addr}, Owns H vs ds F → ∀ a ∈ F, ∃ o, H a = some o
  | _, _, _, .nil, _, h => by cases h
  | _, _, _, .cons h r, a, ha => (List.mem_append.mp ha).elim (fun m => Own.there h a m) fun m => Owns.there r a m
end
theorem Own.same {H H' : Hp} {v : V} {d : Dat} {F : List Addr} (o : Own H v d F) (s : Same H H') : Own H' v d F := o.at fun a ha => by
  obtain ⟨u, e⟩ := o.there a ha
  rw [e]
  exact s a u e
theorem Owns.same {H H' : Hp} {v : List V} {d : List Dat} {F : List Addr} (o : Owns H v d F) (s : Same H H') : Owns H' v d F := o.at fun a ha => by
  obtain ⟨u, e⟩ := o.there a ha
  rw [e]
  exact s a u e
theorem Owns.app {H : Hp} : ∀ {vs ws : List V} {ds es : List Dat} {F G : List Addr}, Owns H vs ds F → Owns H ws es G → Owns H (vs ++ ws) (ds ++ es) (F ++ G)
  | _, _, _, _, _, _, .nil, s => s
  | _, _, _, _, _, _, .cons h r, s => by
    rw [List.append_assoc]
    exact .cons h (Owns.app r s)
theorem Owns.get {H : Hp} : ∀ {vs : List V} {ds : List Dat} {F : List Addr} {i : Nat} {v : V}, Owns H vs ds F → vs[i]? = some v → ∃ d G, ds[i]? = some d ∧ Own H v d G ∧ G.Sublist F
  | _, _, _, 0, _, .cons h _, e => by
    simp only [List.getElem?_cons_zero, Option.some.injEq] at e
    subst e
    exact ⟨_, _, rfl, h, List.sublist_append_left _ _⟩
  | _, _, _, i + 1, v, .cons _ r, e => by
    simp only [List.getElem?_cons_succ] at e ⊢
    obtain ⟨d, G, h1, h2, h3⟩ := Owns.get r e
    exact ⟨d, G, h1, h2, h3.trans (List.sublist_append_right _ _)⟩
/-- a value of one's own, laid since H0 -/
def Fresh (H0 H : Hp) (v : V) (d : Dat) : Prop := ∃ F, Own H v d F ∧ F.Nodup ∧ ∀ a ∈ F, H0 a = none
theorem Fresh.rep {H0 H : Hp} {v : V} {d : Dat} (f : Fresh H0 H v d) : Rep H v d := let ⟨_, o, _⟩ := f; o.rep
theorem Fresh.same {H0 H H' : Hp} {v : V} {d : Dat} (f : Fresh H0 H v d) (s : Same H H') : Fresh H0 H' v d := let ⟨F, o, n, z⟩ := f; ⟨F, o.same s, n, z⟩
theorem Fresh.older {H0 H1 H : Hp} {v : V} {d : Dat} (f : Fresh H1 H v d) (s : Same H0 H1) : Fresh H0 H v d := let ⟨F, o, n, z⟩ := f; ⟨F, o, n, fun a ha => s.free (z a ha)⟩
def Freshs (H0 H : Hp) (vs : List V) (ds : List Dat) : Prop := ∃ F, Owns H vs ds F ∧ F.Nodup ∧ ∀ a ∈ F, H0 a = none
theorem Freshs.same {H0 H H' : Hp} {v : List V} {d : List Dat} (f : Freshs H0 H v d) (s : Same H H') : Freshs H0 H' v d := let ⟨F, o, n, z⟩ := f; ⟨F, o.same s, n, z⟩
theorem Freshs.reps {H0 H : Hp} {v : List V} {d : List Dat} (f : Freshs H0 H v d) : Reps H v d := let ⟨_, o, _⟩ := f; o.rep
theorem Freshs.nil (H0 H : Hp) : Freshs H0 H [] [] := ⟨[], .nil, List.nodup_nil, fun _ h => by cases h⟩
/-- one more, laid later -/
theorem Freshs.snoc {H0 H1 H : Hp} {vs : List V} {ds : List Dat} {v : V} {d : Dat} (f : Freshs H0 H1 vs ds) (s : Same H1 H) (s0 : Same H0 H1) (g : Fresh H1 H v d) : Freshs H0 H (vs ++ [v]) (ds ++ [d]) := by
  obtain ⟨F, o, n, z⟩ := f
  obtain ⟨G, o2, n2, z2⟩ := g
  have one : Owns H [v] [d] (G ++ []) := .cons o2 .nil
  rw [List.append_nil] at one
  refine ⟨F ++ G, (o.same s).app one, List.nodup_append.mpr ⟨n, n2, ?_⟩, fun a ha => ?_⟩
  · intro a ha b hb e
    obtain ⟨u, q⟩ := o.there a ha
    rw [e, z2 b hb] at q
    cases q
  · rcases List.mem_append.mp ha with ha | ha
    · exact z a ha
    · exact s0.free (z2 a ha)
/-- a new object over values of one's own -/
theorem Freshs.lst {H0 H : Hp} {a : Addr} {vs : List V} {ds : List Dat} (f : Freshs H0 H vs ds) (ha : H a = some (.lst vs)) (hn : H0 a = none) (out : ∀ F, Owns H vs ds F → a ∉ F) : Fresh H0 H (.ref a) (.lst ds) := by
  obtain ⟨F, o, n, z⟩ := f
  exact ⟨a :: F, .lst ha o, List.nodup_cons.mpr ⟨out F o, n⟩, fun b hb => (List.mem_cons.mp hb).elim (fun e => by rw [e]; exact hn) (z b)⟩
end Vk
set_option maxHeartbeats 4000000
/-! a list comprehension whose element is a call that may raise -/
namespace Vk
open PySem PySem.Spec PyProof.Rows L2

section
variable {X : Cx}
/-- the wish about exceptions within the block -/
abbrev blkXe (X : Cx) (ce : Env) : Value → Shared → Prop := notedBy (model X.prog X.w) X.A ce (CompFails (model X.prog X.w) X.A X.xe ce)

theorem heldZ_but {B h1 h2 : Heap} {F : List Env} {a C L : Addr} {Z : Obj → Prop} {m m' : Str → Option Value} (hB : B.get? C = none) (n1 : h1.Ns C m) (n2 : h2.Ns C m') (sb : Heap.SameBut C h1 h2)
    (hh : HandSPX.HeldZ B F a Z L h1) : HandSPX.HeldZ B F a Z L h2 := by
  obtain ⟨b1, b0, ff, oe, vs, T, oT, ts, he, hz, hd, hv, hnT, hTa, hT, hdT, hfl⟩ := hh
  have nf : ∀ (x : Addr) (o : Obj) (ws : Array Value), h1.get? x = some o → o.data = .fields ws → x ≠ C := by
    intro x o ws e1 e2 e3
    obtain ⟨oc, es, ep, ec, dc, _⟩ := n1
    rw [e3, ec] at e1
    cases e1
    rw [dc] at e2
    cases e2
  refine ⟨?_, b0, Heap.FunFrames.sameBut sb n2 ff, oe, vs, T, oT, ts, (sb.2 a (nf a oe vs he hd)).trans he, hz, hd, hv, hnT, hTa, (sb.2 T (nf T oT ts hT hdT)).trans hT, hdT, hfl⟩
  intro b o e
  refine (sb.2 b ?_).trans (b1 b o e)
  intro z
  rw [z, hB] at e
  cases e

/-- what a call in the block lets out, let out of the comprehension -/
theorem blk_passes {E : XK} {pins : List (Addr × Obj)} {σ : L2.St} {H3 : Hp} {s3 : Shared} {scope : Scope} {ce : Env} {fp : List Addr} (tk : Takes X (fun cls d _ H => E cls d H)) (hst : X.stack = X.env :: X.outer) (hfr : X.env.frame = some X.env.locals)
    (I3 : Inv X pins σ H3 s3) (cf : ce.frame = X.env.frame) (cL : ce.locals = s3.heap.objs.size)
    (hfp : ∀ b ∈ fp, (b ∈ X.ex ∨ X.s_0.heap.objs.size ≤ b) ∧ b ≠ X.env.locals ∧ (∀ x c, X.env.cells.lookup x = some c → c ≠ b) ∧ ∀ p ∈ X.pn ++ pins, p.1 ≠ b) (σb : L2.St) :
    PassesAt (L2.CX X.prog X.w) ((X.blk s3 H3 scope ce fp).wish (blkXe X ce)) σb E := by
  intro pinsb Hb sb u s' I c
  obtain ⟨a, B, H', cls, d, rfl, fl, hok, ub, na, os, ag, hE⟩ := c
  have hA : X.A.frames = some (X.env :: X.outer) := by rw [I3.ok.frames, hst]
  have fl : HandSPX.FlyingZ B X.stack a (Zc cls d) s'.heap := fl
  have uI : Un (frs X.stack) fp H3 Hb s3.heap sb.heap := I.base
  obtain ⟨mC, nC, _⟩ := I.loc
  have nC : sb.heap.Ns ce.locals mC := nC
  have freeC : Hb ce.locals = none := I.free
  have frLt : ∀ b ∈ frs X.stack, b < s3.heap.objs.size := by
    intro b hb
    obtain ⟨_, o, e, _⟩ := I3.stack.mem hb
    exact Heap.lt_size e
  have notFr : ce.locals ∉ frs X.stack := fun z => Nat.lt_irrefl _ (by have := frLt _ z; rw [cL] at this; exact this)
  obtain ⟨oC, esC, epC, eC, dC, rC⟩ := id nC
  have BC : B.get? ce.locals = some oC := ub.keep _ _ eC freeC notFr
  have HC : H' ce.locals = none := ub.free _ _ eC freeC
  obtain ⟨B', g1, g2⟩ := restrict B fun b => decide (b ≠ ce.locals)
  have B'C : B'.get? ce.locals = none := g2 _ (by simp)
  have B'k : ∀ b, b ≠ ce.locals → B'.get? b = B.get? b := fun b hb => g1 b (decide_eq_true hb)
  have B'B : ∀ b o, B'.get? b = some o → B.get? b = some o := by
    intro b o e
    by_cases hb : b = ce.locals
    · rw [hb, B'C] at e
      cases e
    · rw [B'k b hb] at e
      exact e
  have B'n : ∀ b, B.get? b = none → B'.get? b = none := by
    intro b e
    cases q : B'.get? b with
    | none => rfl
    | some o =>
      rw [B'B b o q] at e
      cases e
  obtain ⟨f1, f2, f3, oe, vs, T, oT, ts, f4, f5, f6, f7, f8, f9⟩ := id fl
  have ffB : s'.heap.FunFrames B' (X.env :: X.outer) := by
    rw [← hst]
    exact funFrames_none f3 fun b hb => B'n b (f3.mem hb).1
  have fl' : HandSPX.FlyingZ B' (X.env :: X.outer) a (Zc cls d) s'.heap := ⟨fun b o e => f1 b o (B'B b o e), B'n a f2, ffB, oe, vs, T, oT, ts, f4, f5, f6, f7, B'n T f8, f9⟩
  show wpAny _ _ (noteFrame (.ref a) ce) _ _ s'
  rw [noteFrame_env _ cf]
  refine HandSPX.looks_onZ Zc.steady hA hfr fl' fun h1 held1 up1 => ?_
  have ns1 : h1.Ns ce.locals mC := by
    refine Heap.Ns.upToSlots (h := s'.heap) ?_ up1
    exact ⟨oC, esC, epC, f1 _ _ BC, dC, rC⟩
  refine ⟨mC, ns1, fun h2 m2 ns2 sb2 => ?_⟩
  have held2 := heldZ_but B'C ns1 ns2 sb2 held1
  obtain ⟨_, _, _, oe2, vs2, T2, oT2, ts2, he2, hz2, hd2, hv2, _⟩ := id held2
  show wpAny _ _ (PySem.passOn _ (Value.ref a) ce) _ _ _
  unfold PySem.passOn
  refine wpAny_bind (wpAny_field he2 hd2 hv2 ?_)
  have tn : ¬ ((Value.ref T2 == Value.none) = true) := by simp
  rw [if_neg tn, cf, hfr]
  have goal : wpAny (model X.prog X.w) X.A (setFlight (.ref a) (some X.env.locals)) (fun _ s4 => wpAny (model X.prog X.w) X.A (throw (.ref a) : Sem Value) (fun _ _ => False) X.xe s4) X.xe { s' with heap := h2 } := by
    refine HandSPX.setFlight_onZ held2 fun h3 held3 up3 => wpAny_throw (tk _ _ ?_)
    obtain ⟨G, k1, k2⟩ := restrict h3 fun b => (B'.get? b).isSome || decide (b ∈ frs X.stack)
    have st3 : B'.StaysIn h3 := held3.1
    have gB : ∀ b o, B'.get? b = some o → G.get? b = some o := by
      intro b o e
      rw [k1 b (by simp [e])]
      exact st3 b o e
    have gF : ∀ b, b ∈ frs X.stack → G.get? b = h3.get? b := fun b hb => k1 b (by simp [hb])
    have gO : ∀ b o, G.get? b = some o → h3.get? b = some o ∧ ((B'.get? b).isSome = true ∨ b ∈ frs X.stack) := by
      intro b o e
      cases q : ((B'.get? b).isSome || decide (b ∈ frs X.stack)) with
      | true =>
        rw [k1 b q] at e
        exact ⟨e, by simpa [Bool.or_eq_true] using q⟩
      | false =>
        rw [k2 b q] at e
        cases e
    have neC : ∀ b o, s3.heap.get? b = some o → b ≠ ce.locals := by
      intro b o e z
      have := Heap.lt_size e
      rw [z, cL] at this
      exact Nat.lt_irrefl _ this
    have slots : ∀ b ∈ frs X.stack, ∀ o, s3.heap.get? b = some o → H3 b = none → b ∉ fp → ∃ sl, G.get? b = some { o with slots := sl } := by
      intro b hb o e n hx
      obtain ⟨sl1, e1⟩ := uI.slot b o e n hb hx
      obtain ⟨sl2, e2⟩ := ub.slot b _ e1 hb
      obtain ⟨_, o0, e0, nf0⟩ := f3.mem hb
      rw [e2] at e0
      cases e0
      obtain ⟨sl3, e3⟩ := up1 b _ e2 nf0
      have e4 := (sb2.2 b (neC b o e)).trans e3
      obtain ⟨sl4, e5⟩ := up3 b _ e4 nf0
      exact ⟨sl4, (gF b hb).trans e5⟩
    have hok' : HOk X.prog X.w H' B' := by
      intro b o e
      refine (hok b o e).stay (fun z v hz q => (B'k z ?_).trans q) (fun _ q => q) fun _ _ q => q
      intro zc
      rcases hz with hz | hz
      · rw [← hz, zc, HC] at e
        cases e
      · rw [zc, HC] at hz
        cases hz
    have un : Un (frs X.stack) fp H3 H' s3.heap G := by
      refine ⟨fun b o e n hb hx => ?_, fun b o e n hb hx => slots b hb o e n hx, fun b o e n hx => ?_, fun b o e hx => ?_, fun b xs e => ub.tups b xs (uI.tups b xs e), fun b o xs e => ub.frzs b o xs (uI.frzs b o xs e), fun b ps e => ?_⟩
      · exact gB b o ((B'k b (neC b o e)).trans (ub.keep b o (uI.keep b o e n hb hx) (uI.free b o e n hx) hb))
      · obtain ⟨sl, e1⟩ := uI.any e n hx
        exact ub.free b _ e1 (uI.free b o e n hx)
      · obtain ⟨o1, e1⟩ := uI.there b o e hx
        by_cases hb : b ∈ frs X.stack
        · exact ⟨_, (slots b hb o e (I3.stkFree b hb) hx).choose_spec⟩
        · obtain ⟨o2, e2⟩ := ub.there b o1 e1 hb
          exact ⟨o2, gB b o2 ((B'k b (neC b o e)).trans e2)⟩
      · obtain ⟨m1, e1⟩ := uI.tbls b ps e
        obtain ⟨m2, e2⟩ := ub.tbls b _ e1
        exact ⟨m1 ++ m2, by rw [e2, Array.append_assoc]⟩
    have J : Inv X pins σ H' { s' with heap := G } := I3.call' (s' := { s' with heap := G }) (ch := fp) (os.trans I.os) un (hok'.kept gB) ag hfp
    refine ⟨a, B', { s' with heap := G }, pins, σ, H', cls, d, rfl, J, fun b o e hb => ?_, Heap.UpToSlots.of_keeps fun b o e => (gO b o e).1, .inr (.inr ?_), na, rfl, ag, hE⟩
    · obtain ⟨e', hz⟩ := gO b o e
      rcases hz with hz | hz
      · obtain ⟨o', q⟩ := Option.isSome_iff_exists.mp hz
        have := st3 b o' q
        rw [e'] at this
        cases this
        exact q
      · exact absurd hz hb
    · rw [hst]
      exact held3
  first
    | exact wpAny_bind (wpAny_pure (wpAny_bind goal))
    | exact wpAny_bind goal

/-- [elt for target in iter if ..], the element may raise by a call -/
theorem pe_lcX {E : XK} {elt tg iter : Expr} {ifs : List Expr} {scope : Scope} {own : List (Str × Nat)} {pos : Pos} {wi : TI} {g : TG} {tt : TT} {te : TE} (hc : X.calm = true) (hN : X.N.Nodup) (hst : X.stack = X.env :: X.outer) (hfr : X.env.frame = some X.env.locals)
    (tk : Takes X (fun cls d _ H => E cls d H)) (hi : PI X tg iter wi) (ok : BlkOk X.N X.env.scope scope own)
    (hg : ∀ (s : Shared) (H : Hp) (C : Addr) (cl : List (Str × Addr)) (fp : List Addr), PG (X.blk s H scope (compEnvC scope cl C X.env) fp) tg g)
    (ht : ∀ (s : Shared) (H : Hp) (C : Addr) (cl : List (Str × Addr)) (fp : List Addr), PTs (X.blk s H scope (compEnvC scope cl C X.env) fp) ifs tt)
    (he : ∀ (s : Shared) (H : Hp) (C : Addr) (cl : List (Str × Addr)) (fp : List Addr) (xe : Value → Shared → Prop), (∀ σ, PassesAt (L2.CX X.prog X.w) ((X.blk s H scope (compEnvC scope cl C X.env) fp).wish xe) σ E) →
      PE ((X.blk s H scope (compEnvC scope cl C X.env) fp).wish xe) elt te) (hs : ∀ x, foldedSetIterable iter X.env x = pure x := by intro _; rfl) :
    PE X (.ListComp elt [⟨tg, iter, ifs, 0⟩] scope pos) (tLc wi g tt te (own.map (·.2))) := by
  refine ⟨fun pins s σ H Q I h => ?_⟩
  rw [eval_ListComp]
  have frees : ∀ y ∈ scope.names, y.2 = .free → ∃ c, X.env.cells.lookup y.1 = some c := by
    intro y hy e
    exact (ok.free y hy e).elim (fun k => I.ok.has _ (.inl k)) fun k => I.ok.has _ (.inr k)
  refine comprehension_at (use := none) rfl hs (closure_ok frees) ok.kind (fun y hy e => by rw [ok.uniq y hy, e]) ?_
  refine thn (hi.run pins s σ H _ I h) fun xv s1 hx => thn hx fun itv s2 h2 => ?_
  obtain ⟨it, fp, tn, J, H2, rfl, I2, T, st2, f2, q⟩ := h2
  refine wpAny_newObj_type (newEnv_comp ?_) (Nat.zero_le _)
  obtain ⟨D, hD⟩ : ∃ D, D = s2.heap.objs.size := ⟨_, rfl⟩
  rw [← hD]
  have hDn : H2 D = none := I2.hok.fresh (Nat.le_of_eq hD.symm)
  obtain ⟨W, ⟨m0, w0⟩, turn⟩ := q D hDn
  obtain ⟨s3, hs3⟩ : ∃ s3 : Shared, s3 = { s2 with heap := s2.heap.push { cls := .type "list", data := .seq ([] : List Value).toArray } } := ⟨_, rfl⟩
  have h3 : s3.heap = s2.heap.push { cls := .type "list", data := .seq ([] : List Value).toArray } := by rw [hs3]
  obtain ⟨H3, hH3⟩ : ∃ H3, H3 = upd H2 D (.lst []) := ⟨_, rfl⟩
  have I3 : Inv X pins σ H3 s3 := by
    rw [hs3, hH3]
    refine I2.laid (t' := s2.toks) (fun b o e => Heap.get?_push_of_some _ e) (Nat.le_of_eq hD.symm) ⟨Nat.zero_le _, [], 0, .nil, ?_⟩
    rw [hD]
    exact Heap.get?_push_size _ rfl
  have f3 : ∀ b ∈ fp, FpOk X pins H3 b ∧ b < s3.heap.objs.size := by
    intro b hb
    obtain ⟨o, e, _⟩ := T.obj _ _ st2 b hb
    have lt := Heap.lt_size e
    have ne : b ≠ D := by rw [hD]; exact Nat.ne_of_lt lt
    have sz : s3.heap.objs.size = s2.heap.objs.size + 1 := by rw [h3, Heap.size_push]
    refine ⟨⟨?_, (f2 b hb).2⟩, by rw [sz]; exact Nat.lt_succ_of_lt lt⟩
    rw [hH3, upd_ne ne]
    exact (f2 b hb).1
  have st3 : tn 0 s3.heap := T.keep _ _ _ st2 fun b _ o e => by rw [h3]; exact Heap.get?_push_of_some _ e
  have I4 := block_start I3 ok hN f3
  rw [← hs3]
  obtain ⟨ce, hce⟩ : ∃ ce, ce = compEnvC scope (cellsFrom (s3.heap.objs.size + 1) scope.names (cloFrom X.env.cells scope.names [])) s3.heap.objs.size X.env := ⟨_, rfl⟩
  have pg := hg s3 H3 s3.heap.objs.size (cellsFrom (s3.heap.objs.size + 1) scope.names (cloFrom X.env.cells scope.names [])) fp
  have pt := ht s3 H3 s3.heap.objs.size (cellsFrom (s3.heap.objs.size + 1) scope.names (cloFrom X.env.cells scope.names [])) fp
  have pe := he s3 H3 s3.heap.objs.size (cellsFrom (s3.heap.objs.size + 1) scope.names (cloFrom X.env.cells scope.names [])) fp
  rw [← hce] at I4 pg pt pe
  have cL : ce.locals = s3.heap.objs.size := by rw [hce]; rfl
  have cF : ce.frame = X.env.frame := by rw [hce]; rfl
  have lets : ∀ b ∈ fp, (b ∈ X.ex ∨ X.s_0.heap.objs.size ≤ b) ∧ b ≠ X.env.locals ∧ (∀ x c, X.env.cells.lookup x = some c → c ≠ b) ∧ ∀ p ∈ X.pn ++ pins, p.1 ≠ b :=
    fun b hb => ⟨(f3 b hb).1.2.2.2.1, (f3 b hb).1.2.1, (f3 b hb).1.2.2.2.2.1, (f3 b hb).1.2.2.2.2.2⟩
  have peX := pe _ (blk_passes (scope := scope) tk hst hfr I3 cF cL lets)
  show codeAny _ _ (.compStart (.ListComp elt [⟨tg, iter, ifs, 0⟩] scope pos) 0 (.ref it) (.ref D) (compEnvC scope (cellsFrom (s3.heap.objs.size + 1) scope.names (cloFrom X.env.cells scope.names [])) s3.heap.objs.size X.env))
    (compEnds (model X.prog X.w) X.A X.xe none (EP X pins σ Q) (.ref D) (compEnvC scope (cellsFrom (s3.heap.objs.size + 1) scope.names (cloFrom X.env.cells scope.names [])) s3.heap.objs.size X.env)) { s3 with heap := pushCells (s3.heap.push { cls := .type "dict", data := .dict #[] }) scope.names }
  rw [← hce]
  obtain ⟨s4, hs4⟩ : ∃ s4 : Shared, s4 = { s3 with heap := pushCells (s3.heap.push { cls := .type "dict", data := .dict #[] }) scope.names } := ⟨_, rfl⟩
  rw [← hs4] at I4 ⊢
  have st4 : tn 0 s4.heap := T.keep _ _ _ st3 fun b _ o e => by rw [hs4]; exact pushCells_keeps _ _ _ _ (Heap.get?_push_of_some _ e)
  rw [← hH3] at w0
  have stat : ∀ {σ1 : L2.St} {H1 : Hp} {s1 : Shared}, Inv (X.blk s3 H3 scope ce fp) [] σ1 H1 s1 → (∀ b ∈ fp, H1 b = none) → ∀ b ∈ fp, FpOk (X.blk s3 H3 scope ce fp) [] H1 b := by
    intro σ1 H1 s1 I1 hn b hb
    have ex := I1.ok.exf b hb
    exact ⟨hn b hb, ex.1, I1.ok.exfs b hb, .inl hb, ex.2, fun p hp => by cases hp⟩
  have loop : codeAny (model X.prog X.w) X.A (.compLoop (.ListComp elt [⟨tg, iter, ifs, 0⟩] scope pos) 0 (.ref it) (.ref D) ce) (compEnds (model X.prog X.w) X.A X.xe none (EP X pins σ Q) (.ref D) ce) s4 := by
    refine compLoop_any (fun n z => ∃ i H5, Inv (X.blk s3 H3 scope ce fp) [] (wipe σ (own.map (·.2))) H5 z ∧ tn i z.heap ∧ (∀ b ∈ fp, H5 b = none) ∧ W i n H5) ?_ m0 ⟨0, H3, I4, st4, fun b hb => (f3 b hb).1.1, w0⟩
    rintro n s5 ⟨i, H5, I5, st5, n5, w5⟩
    rcases turn i n H5 w5 with ⟨stop, qq⟩ | ⟨go, Nx, hNx, step⟩
    · refine thnF (T.done (X.blk s3 H3 scope ce fp) rfl rfl rfl hc i [] s5 _ H5 (fun _ _ => False) I5 (stat I5 n5) st5 stop) fun r s6 ⟨hr, I6⟩ => ?_
      subst hr
      have I7 : Inv X pins σ H5 s6 := I3.call' (ch := fp) I6.os I6.base I6.hok I6.bare lets
      obtain ⟨m, hn, _⟩ := I6.loc
      have hn : s6.heap.Ns ce.locals m := hn
      have nC : H5 ce.locals = none := I6.free
      refine ⟨m, hn, fun h' sb => ?_⟩
      obtain ⟨z0, z1, z2, z3, z4, z5⟩ := I3.fpOk (b := ce.locals) (H' := H5) (by rw [cL]; exact Nat.le_refl _) nC
      exact ⟨.ref D, H5, I7.turned (t' := s6.toks) (fun b o hb e => (sb.2 b hb).trans e) z0 z1 z3 z4 z5, rfl, qq⟩
    · refine thnF (T.item (X.blk s3 H3 scope ce fp) rfl rfl rfl hc i [] s5 _ H5 (fun _ _ => False) I5 (stat I5 n5) st5 go) fun r s6 ⟨u, hr, h6⟩ => ?_
      subst hr
      refine thnF h6 fun _ s7 ⟨x, H7, I7, r7, y7, st7, n7⟩ => ?_
      have I7p := I7.pinned (stat I7 n7) (T.obj _ _ st7)
      refine thnF (pg.run _ s7 _ H7 x u _ I7p r7 (step x H7 y7)) fun _ s8 ⟨σ8, H8, I8, hw8, q8⟩ => ?_
      refine thnF (pt.run _ s8 σ8 H8 _ I8 q8) fun b s9 ⟨H9, I9, q9⟩ => ?_
      have fin : ∀ {z : Shared} {Hz : Hp}, Inv (X.blk s3 H3 scope ce fp) ([] ++ pinsAt fp s7.heap) σ8 Hz z → Nx Hz →
          ∃ m, m < n ∧ ∃ i H5, Inv (X.blk s3 H3 scope ce fp) [] (wipe σ (own.map (·.2))) H5 z ∧ tn i z.heap ∧ (∀ b ∈ fp, H5 b = none) ∧ W i m H5 := by
        intro z Hz Iz nx
        obtain ⟨m', hm, w'⟩ := hNx Hz nx
        have pinned : ∀ b ∈ fp, ∀ o, s7.heap.get? b = some o → z.heap.get? b = some o ∧ Hz b = none := by
          intro b hb o e
          have p := Iz.pin (b, o) (List.mem_append_right _ (List.mem_append_right _ (mem_pinsAt hb e)))
          exact ⟨p.1, p.2.1⟩
        refine ⟨m', hm, i + 1, Hz, (Iz.unpinned (pins := [])).weak (by rw [← hw8, wipe_length]) (fun j v e => ?_), T.keep _ _ _ st7 fun b hb o e => (pinned b hb o e).1, fun b hb => ?_, w'⟩
        · rw [← hw8] at e
          exact (wipe_some e).1
        · obtain ⟨o, e, _⟩ := T.obj _ _ st7 b hb
          exact (pinned b hb o e).2
      cases b with
      | false => exact fin I9 q9
      | true =>
        refine thn (peX.run _ s9 σ8 H9 _ (I9.wish _) q9) fun z s10 ⟨yv, H10, I10, r10, acc, hD10, hz10, nx⟩ => ?_
        exact app_ok (X := X.blk s3 H3 scope ce fp) I10.unwish hD10 hz10 r10 fun s11 I11 => fin I11 nx
  exact codeAny_compStart_list loop (T.self X.A 0 _ _ _ st4 loop)
end
end Vk
set_option maxHeartbeats 4000000
/-! Fault(message): made, its message -/
namespace Vk
open PySem PySem.W PySem.Calls PyProof.Rows PySem.HandSPX
/-- the text by places -/
def topS (i : Nat) : Stmt := PySem.Challenge.pw_viewloom_k19_whole_expressions.main.body.getD i (.Pass ⟨0, 0, 0, 0⟩)
abbrev sInit : Stmt := L2.inClass (topS 2) 0
abbrev PP : Program := PySem.Challenge.pw_viewloom_k19_whole_expressions
/-- what the written part says of Fault, at C, of ViewError, at V, of Fault's __init__, at fI (its cell cc, its code object cda) -/
structure FltTxt (K : Frag) (mg : Str → Option Value) (C V fI cc cda : Addr) : Prop where
  gC : mg "Fault" = some (.ref C)
  gV : mg "ViewError" = some (.ref V)
  gS : mg "super" = none
  cls : ∃ nm q N bs bm sn sub ab col dd k0 k1 k2 k3 k5, K.lookup C = some (excClassObj nm q C N bs bm true sn sub ab col dd k0 k1 k2 k3 k5 "ValueError.__new__") ∧ refsVE bm = true
  sup : ks_superIn K C C "__init__" = some (some (.builtin "ValueError.__init__"))
  opq : nsIn K cStatics "thirdparty.any" = some none
  subE : subIn K (.ref C) (.type "ValueError") = some true
  subC : mroIn K C (.ref C) = some true
  sa : findIn K (.ref C) "__setattr__" = some (some (.builtin "object.__setattr__"))
  ga : findIn K (.ref C) "__getattribute__" = some (some (.builtin "BaseException.__getattribute__"))
  gg : findIn K (.ref C) "__getattr__" = some none
  noN : findIn K (.ref C) "message" = some none
  iC : findIn K (.ref C) "__init__" = some (some (.ref fI))
  tC : typeIn K (.ref fI) = some (.type "function")
  kC : keepIn K (.ref C) = true
  exC : subIn K (.ref C) (.type "BaseException") = some true
  tyC : typeIn K (.ref C) = some (.type "type")
  hdC : hasDictIn K C = true
  te : exmOne K (.ref C) (.ref V) = some true
  fn : ∃ (oc : Value) (od : Option Addr) (kV doc pm : Value) (an : Option Addr) (ct : Value) (osl : Array (Option Value)),
    K.lookup fI = some ⟨oc, od, .func (ksFn "__init__" "Fault.__init__" (L2.defArgs sInit) (L2.defBody sInit) (L2.defScope sInit) .none kV doc pm an (.ref cda) ct cc), osl⟩
  code : codeIn K (.ref cda) "Fault.__init__" = true
  file : ∃ ccl cdd vs ccs file tf, K.lookup cda = some ⟨ccl, cdd, .fields vs, ccs⟩ ∧ vs[2]? = some (.str file tf) ∧ ((PP.main.file : Str) == file) = true
  cell : ∃ cl cld csl, K.lookup cc = some ⟨cl, cld, .cell (some (.ref C)), csl⟩

theorem one_size (v : Value) : [v].length ≤ sizeLine := by
  rw [sizeLine_eq]
  exact (by decide : 1 ≤ 16777216)
theorem ldL {M : Model} {s : Shared} {A : Around} {E : Value → Shared → Prop} {env : Env} {m : Str → Option Value} {x : Str} {pos : Pos} {v : Value} {Q : Value → Shared → Prop} (hn : s.heap.Ns env.locals m) (hv : m x = some v) (h : Q v s)
    (hk : env.scope.kind = .function := by rfl) (hl : env.kindOf x = some .local := by rfl) (hd : (x == ("__debug__" : Str)) = false := by decide) : wpAny M A (eval (.Name x pos) env) Q E s := wpAny_Name (wpAny_loadName_local hk hl hn hv h) hd

/-- ValueError.__init__ bound to e, called -/
theorem call_bwV {prog : Program} {w : World} {A : Around} {E : Value → Shared → Prop} {h : Heap} {g : Array GenState} {d : Drawn} {t : Nat} {os : OsState}
    {nm q : Str} {C N : Addr} {bs bm : List Value} {hdct : Bool} {sn : List Str} {sub : List Value} {ab : Bool} {col : Option Bool} {dd : Option Addr} {k0 k1 k2 k3 k5 : Option Value}
    {u e t0 : Addr} {rest : List Value} {Q : Value → Shared → Prop}
    (hC : h.get? C = some (excClassObj nm q C N bs bm hdct sn sub ab col dd k0 k1 k2 k3 k5 "ValueError.__new__")) (he : h.get? e = some (HandSPX.excO C t0)) (hu : h.get? u = some (kxs_mw "ValueError.__init__" e)) (hrest : rest.length ≤ sizeLine)
    (hq : ∀ h' t1, (∀ b o, b ≠ e → h.get? b = some o → h'.get? b = some o) → h'.get? e = some (HandSPX.excO C t1) → Q .none ⟨h', g, d, t, os⟩) :
    wpAny (model prog w) A (call (.ref u) rest) Q E ⟨h, g, d, t, os⟩ := by
  refine wpAny_call (codeAny_of_tree (show wpAny _ A.in1 (callAny (.ref u) ⟨rest, []⟩) _ _ _ from ?_))
  have z1 : (Value.type "method-wrapper" == Value.type "method" || Value.type "method-wrapper" == Value.type "builtin_function_or_method" || Value.type "method-wrapper" == Value.type "method-wrapper") = true := by decide
  simp only [callAny]
  refine wpAny_bind (wpAny_load hu ?_)
  simp only [kxs_mw, z1, if_true]
  refine KFB.if_so (by decide) (wpAny_bind (ESX.check_bound F.excBase_ValueError hC he rfl (wpAny_bind (wpAny_pure (wpAny_pure ⟨Code.quiet_builtin _ (by decide +kernel), codeAny_builtin F.excBase_ValueError.initEntry ?_⟩)))))
  rw [Around.under_plainId F.excBase_ValueError.init.plain _]
  wp_walk
  refine hq _ h.objs.size (fun b o hb ho => (Heap.get?_update_other _ _ (Ne.symm hb)).trans (Heap.get?_push_of_some _ ho)) ?_
  rw [Heap.get?_update_self _ (Heap.get?_push_of_some _ he) rfl] <;> rfl

/-- what __init__ leaves of a fresh exception at x -/
structure InitEnd (h h' : Heap) (x C dx : Addr) (v : Value) : Prop where
  keep : ∀ b o, b ≠ x → h.get? b = some o → h'.get? b = some o
  obj : ∃ t1, h'.get? x = some { cls := .ref C, dict := some dx, data := .fields #[.ref t1, .none, .none, .none, .bool false, .none] }
  dbig : h.objs.size ≤ dx
  dne : dx ≠ x
  ns : h'.Ns1 dx (fun y => if y = "message" then some v else none)
structure OwnMade (h h' : Heap) (e C d : Addr) (v : Value) : Prop where
  keep : ∀ b o, h.get? b = some o → h'.get? b = some o
  new : h.objs.size ≤ e
  obj : ∃ oe vs, h'.get? e = some oe ∧ oe.cls = .ref C ∧ oe.dict = some d ∧ oe.data = .fields vs ∧ vs[1]? = some .none
  dbig : h.objs.size ≤ d
  dne : d ≠ e
  ns : h'.Ns1 d (fun y => if y = "message" then some v else none)
section
variable {w : World} {A : Around} {E : Value → Shared → Prop} {R : Result → Shared → Prop} {s : Shared} {K : Frag} {mg : Str → Option Value} {C Vw fI cc cda : Addr}
theorem flt_init (T : FltTxt K mg C Vw fI cc cda) {x t0 : Addr} {v : Value} (X : K.In s.heap) (hlim : s.heap.NoLimit) (hgl : s.heap.Ns mainGlobals mg) (hbl : ∃ mb, s.heap.Ns builtinsNs mb ∧ ∀ x : Str, x ≠ "__name__" → mb x = bootBuiltins x)
    (hx : s.heap.get? x = some (excO C t0)) (hnx : K.lookup x = none) (hroom : A.depth < recursionLimit)
    (hq : ∀ h' tk dx, InitEnd s.heap h' x C dx v → R (.ok (.ret .none)) { s with heap := h', toks := tk }) :
    codeAny (model PP w) A (.call (.ref fI) ⟨[.ref x, v], []⟩) R s := by
  obtain ⟨oc, od, kV, doc, pm, an, ct, osl, ho⟩ := T.fn
  obtain ⟨nm, q, N, bs, bm, sn, sub, ab, col, dd, k0, k1, k2, k3, k5, hC, hbm⟩ := T.cls
  obtain ⟨ccl, cdd, vs, ccs, file, tf, hcode, hvs, hfile⟩ := T.file
  obtain ⟨cl, cld, csl, hcell⟩ := T.cell
  obtain ⟨mb, hb1, hb2⟩ := hbl
  have hcl : clsIn K C = some { name := nm, bases := bs, mro := .ref C :: bm, ns := N, qualname := q, hasDict := true, slotNames := sn, subclasses := sub, abstract := ab, collection := col, hasDel := false } := by unfold clsIn; rw [hC] <;> rfl
  have hne : x ≠ C := by
    intro z
    have e := X _ _ hC
    rw [← z, hx] at e
    cases e
  refine ks_codeAny_call_defAt (fd := ksFn "__init__" "Fault.__init__" (L2.defArgs sInit) (L2.defBody sInit) (L2.defScope sInit) .none kV doc pm an (.ref cda) ct cc) (body := L2.defBody sInit) (binds := [("self", .ref x), ("message", v)]) hroom (X _ _ ho) rfl hlim
    (codeRec_of X T.code) rfl (BindsTo.of_eq (by first | rfl | with_unfolding_all rfl)) (show ∀ y ∈ (L2.defScope sInit).names, y.2 ≠ .cell by decide +kernel) (by
      intro y hy
      rcases List.mem_cons.mp hy with rfl | hy
      · rfl
      · obtain rfl := List.mem_singleton.mp hy
        rfl) (fun h1 hns k1 => ?_) rfl rfl rfl
  have X1 : K.In h1 := X.keeps k1
  have hx1 := k1 _ _ hx
  have hm1 : (fun y => ([("self", Value.ref x), ("message", v)] : List (Str × Value)).reverse.lookup y) "self" = some (.ref x) := by rfl
  have hm2 : (fun y => ([("self", Value.ref x), ("message", v)] : List (Str × Value)).reverse.lookup y) "message" = some v := by rfl
  generalize (fun y => ([("self", Value.ref x), ("message", v)] : List (Str × Value)).reverse.lookup y) = mm at hns hm1 hm2
  have h0 := hns
  -- super().__init__(message)
  refine ks_wpAt_execs_cons (ks_wpAt_Expr_any (ks_wpAt_MethodCall ?_) rfl rfl)
  refine ks_wpAt_super_base (env := ksEnv "Fault.__init__" (L2.defScope sInit) s.heap.objs.size fI (.ref cda) cc) rfl rfl rfl rfl (X1 _ _ ho) rfl rfl rfl (X1 _ _ hcode) rfl hvs hfile (by decide +kernel) ?_
  have hbo : bootBuiltins "super" = some (.type "super") := by decide +kernel
  refine ks_loadName_global rfl rfl (loadGlobal_builtin (env := ksEnv "Fault.__init__" (L2.defScope sInit) s.heap.objs.size fI (.ref cda) cc) (hgl.keeps k1) T.gS (hb1.keeps k1) ((hb2 _ (by decide +kernel)).trans hbo) ⟨rfl, ?_⟩)
  refine wpAny_loadName_free (env := ksEnv "Fault.__init__" (L2.defScope sInit) s.heap.objs.size fI (.ref cda) cc) rfl rfl rfl ⟨_, X1 _ _ hcell, rfl⟩ ?_
  refine wpAny_loadName_local (env := ksEnv "Fault.__init__" (L2.defScope sInit) s.heap.objs.size fI (.ref cda) cc) rfl rfl (by exact hns) hm1 ?_
  refine ks_wpAny_isType_cls (X1 _ _ hC) rfl ⟨rfl, ?_⟩
  refine ks_wpAny_call_super (X1 _ _ hC) rfl hx1 rfl (fun c e => by cases e) (looks_mroIn X1 T.subC) (fun h2 hso k2' => ?_)
  have X2 := X1.keeps k2'
  have hx2 := k2' _ _ hx1
  have hm := T.sup
  unfold ks_superIn at hm
  rw [hcl] at hm
  have I2 : InstAt h2 x (excO C t0) C none := ⟨hx2, rfl, rfl, trivial⟩
  refine kxs_getMethod kxs_ValueError hso (looks_opaque X2 T.opq) (l₀ := .ref C :: bm) (fun A Q E s k q => wpAny_bind ((looks_clsIn X2 hcl) A _ E s k (wpAny_pure q))) rfl X2 hm (I2.type.andThen (looks_subIn X2 T.subE)) hne rfl ?_
  show wpAny _ _ (callWith _ (.ref h2.objs.size) [] ((false, eval (.Name "message" _) (ksEnv "Fault.__init__" (L2.defScope sInit) s.heap.objs.size fI (.ref cda) cc)) :: []) []) _ _ _
  have hmw : (h2.push (kxs_mw "ValueError.__init__" x)).get? h2.objs.size = some (kxs_mw "ValueError.__init__" x) := Heap.get?_push_at rfl rfl
  have k3 : ∀ b o, h2.get? b = some o → (h2.push (kxs_mw "ValueError.__init__" x)).get? b = some o := fun b o e => Heap.get?_push_of_some _ e
  have ns3 : (h2.push (kxs_mw "ValueError.__init__" x)).Ns s.heap.objs.size mm := (h0.keeps k2').keeps k3
  refine kxs_callWith (i := "ValueError.__init__") (x := x) rfl (evalArgs_plain (spliced_cons (ldL (env := ksEnv "Fault.__init__" (L2.defScope sInit) s.heap.objs.size fI (.ref cda) cc) (by exact ns3) hm2 (spliced_nil ⟨hmw, ?_⟩))))
  refine call_bwV ((X2.keeps k3) _ _ hC) (k3 _ _ hx2) hmw (one_size v) fun h4 t1 k4 hx4 => ?_
  -- self.message = message
  have neL : s.heap.objs.size ≠ x := Nat.ne_of_gt (Heap.lt_size hx)
  have ns4 : h4.Ns s.heap.objs.size mm := by
    obtain ⟨oL, es, ep, eL, dL, rL⟩ := ns3
    exact ⟨oL, es, ep, k4 _ _ neL eL, dL, rL⟩
  have k04 : ∀ b o, b ≠ x → s.heap.get? b = some o → h4.get? b = some o := fun b o hb e => k4 b o hb (k3 b o (k2' b o (k1 b o e)))
  have X4 : K.In h4 := fun b o e => k04 b o (fun z => by rw [z, hnx] at e; cases e) (X b o e)
  show PySem.wpAt _ _ _ (execs _ _) _ _ _
  refine wpAt_of_wpAny (wpAny_execs_cons (plainObj_wpAny_Assign_Attribute ?_))
  refine ldL (env := ksEnv "Fault.__init__" (L2.defScope sInit) s.heap.objs.size fI (.ref cda) cc) (by exact ns4) hm2 (ldL (env := ksEnv "Fault.__init__" (L2.defScope sInit) s.heap.objs.size fI (.ref cda) cc) (by exact ns4) hm1 ?_)
  refine set_plain X4 (ox := excO C t1) (od := none) ⟨hx4, rfl, rfl, trivial⟩ T.sa ?_
  refine exc_osa X4 hx4 hcl (show refsVE (.ref C :: bm) = true from hbm) rfl T.noN (fun h5 tk5 dx k5 dn dne hx5 hn5 => ?_)
  refine wpAny_execs_nil (hq h5 tk5 dx ⟨fun b o hb e => k5 b o hb (k04 b o hb e), ⟨_, hx5⟩, ?_, dne, hn5⟩)
  refine Nat.le_trans (Nat.le_of_lt ?_) dn
  obtain ⟨oL, _, _, eL, _⟩ := ns4
  exact Heap.lt_size eL
theorem flt_made (T : FltTxt K mg C Vw fI cc cda) {v : Value} (X : K.In s.heap) (hlim : s.heap.NoLimit) (hgl : s.heap.Ns mainGlobals mg) (hbl : ∃ mb, s.heap.Ns builtinsNs mb ∧ ∀ x : Str, x ≠ "__name__" → mb x = bootBuiltins x)
    (hroom : A.depth + 1 < recursionLimit) (hq : ∀ h' tk e d, OwnMade s.heap h' e C d v → R (.ok (.ret (.ref e))) { s with heap := h', toks := tk }) :
    codeAny (model PP w) A (.call (.ref C) ⟨[v], []⟩) R s := by
  obtain ⟨nm, q, N, bs, bm, sn, sub, ab, col, dd, k0, k1, k2, k3, k5, hC, hbm⟩ := T.cls
  obtain ⟨hp, g, dr, tk, os⟩ := s
  have k : ∀ b o, hp.get? b = some o → ((hp.push (kdv_tup [v])).push (excO C hp.objs.size)).get? b = some o := fun b o e => Heap.get?_push_of_some _ (Heap.get?_push_of_some _ e)
  have hget : ((hp.push (kdv_tup [v])).push (excO C hp.objs.size)).get? (hp.objs.size + 1) = some (excO C hp.objs.size) := by heap_get
  have hnx : K.lookup (hp.objs.size + 1) = none := by
    cases e : K.lookup (hp.objs.size + 1) with
    | none => rfl
    | some o =>
      have z : hp.get? (hp.objs.size + 1) = some o := X _ _ e
      exact absurd (Nat.lt_of_succ_lt (Heap.lt_size z)) (Nat.lt_irrefl _)
  obtain ⟨mb, hb1, hb2⟩ := hbl
  refine call_own F.excBase_ValueError (fun X => refsVE_contains X bm hbm) (X _ _ hC) (looks_findIn X T.iC) (fun self => bind_fn X self T.tC) (one_size v) ?_
  refine flt_init (s := ⟨(hp.push (kdv_tup [v])).push (excO C hp.objs.size), g, dr, tk, os⟩) T (X.keeps k) (hlim.keeps k) (hgl.keeps k) ⟨mb, hb1.keeps k, hb2⟩ hget hnx ?_ fun h' tk' dx M => ?_
  · show A.depth + 1 < recursionLimit
    exact hroom
  · have old : ∀ b o, hp.get? b = some o → h'.get? b = some o := fun b o e => M.keep b o (Nat.ne_of_lt (Nat.lt_succ_of_lt (Heap.lt_size e))) (k b o e)
    obtain ⟨t1, hx⟩ := M.obj
    have z : hp.objs.size + 1 + 1 ≤ dx := by
      have q := M.dbig
      first
        | exact q
        | (rw [Heap.size_push, Heap.size_push] at q; exact q)
    exact ⟨rfl, hq h' tk' (hp.objs.size + 1) dx ⟨old, Nat.le_succ _, ⟨_, _, hx, rfl, rfl, rfl, rfl⟩, Nat.le_trans (Nat.le_trans (Nat.le_succ _) (Nat.le_succ _)) z, M.dne, M.ns⟩⟩
end
end Vk
namespace Vk
open PySem PySem.Spec PyProof.Rows L2
/-- what an exception's own dict holds: its message -/
def msgD (v : V) : HO := .xd [(("message" : Str), v)]
theorem relO_msg {v : V} {v' : Value} (r : RelV v v') (f : Str) : RelO (List.lookup f [(("message" : Str), v)]) (if f = "message" then some v' else none) := by
  by_cases hw : f = "message"
  · subst hw
    rw [if_pos rfl]
    have q : List.lookup ("message" : Str) [(("message" : Str), v)] = some v := by simp [List.lookup]
    rw [q]
    exact r
  · rw [if_neg hw]
    have qw : (f == ("message" : Str)) = false := by simpa using hw
    have q2 : List.lookup f [(("message" : Str), v)] = none := by simp [List.lookup, qw]
    rw [q2]
    trivial
section
variable {X : Cx} {C Vw fI cc cda : Addr}
/-- Fault(e) -/
def tMkFlt (C : Addr) (ta : TA) : L2.St → Hp → XK → Prop := fun σ H Q => ta σ H fun vs H1 => ∃ v, vs = [v] ∧ ∀ d, H1 d = none → Q (.ref C) (some d) (upd H1 d (msgD v))
theorem pmk_flt {a : Expr} {ta : TA} {p pos : Pos} {k : Nat} (hP : X.prog = PP) (T : FltTxt X.K X.mg C Vw fI cc cda) (hr : Room k X.A) (ha : PA X [a] ta) (hg : Gl X "Fault" := by rfl)
    (he : starEach (a :: []) X.env = (false, eval a X.env) :: starEach [] X.env := by rfl) (hpl : (backTo pos (starEach [] X.env)).any (·.1) = false := by rfl) :
    PMk X (.Call (.Name "Fault" p) [a] [] pos) (tMkFlt C ta) := by
  intro pins s σ H Q I h
  refine wpAny_Call_Name_kw (ld_glob I hg T.gC ?_)
  refine PySem.W.callWith_K (h₀ := X.base) I.ok.mod.kin T.kC (thn (ha.run pos pins s σ H _ I h) fun us s1 hh => ?_) he hpl
  obtain ⟨vs, H1, I1, r1, v, ev, q1⟩ := hh
  subst ev
  refine ⟨I1.kIn, ?_⟩
  cases r1 with
  | cons rv rn =>
    rename_i v' us'
    cases rn
    show wpAny _ _ (call (.ref C) [v']) _ _ _
    have hlim := I1.nolimit
    have hgl : s1.heap.Ns mainGlobals X.mg := I1.mod.glob.keeps I1.bk
    obtain ⟨mb, hb1, hb2⟩ := I1.mod.blt
    have hbl := hb1.keeps I1.bk
    obtain ⟨hp, g, dr, tk, os⟩ := s1
    rw [hP]
    refine wpAny_call (flt_made T I1.kIn hlim hgl ⟨mb, hbl, hb2⟩ (by have := hr.dp; omega) fun h' tk' e d M => ?_)
    show MkP X pins σ Q (.ref e) ⟨h', g, dr, tk', os⟩
    obtain ⟨oe, fv, hoe, hc, hd, hdat, h1⟩ := M.obj
    have hns := M.ns
    obtain ⟨G', g1, g2⟩ := restrict h' fun b => decide (b ≠ e)
    have gk : ∀ b, b ≠ e → G'.get? b = h'.get? b := fun b hb => g1 b (decide_eq_true hb)
    have ge : G'.get? e = none := g2 e (by simp)
    have old : ∀ b o, hp.get? b = some o → G'.get? b = some o := fun b o q => (gk b (Nat.ne_of_lt (Nat.lt_of_lt_of_le (Heap.lt_size q) M.new))).trans (M.keep b o q)
    have ob : ObjOk X.prog X.w (upd H1 d (msgD v)) G' d (msgD v) :=
      ⟨_, hns.at (fun o q => (gk d M.dne).trans q), fun f => relO_msg rv f⟩
    have J : Inv X pins σ (upd H1 d (msgD v)) ⟨G', g, dr, tk', os⟩ := I1.laid (t' := tk') old M.dbig ob
    refine ⟨e, oe, fv, ⟨G', g, dr, tk', os⟩, _, .ref C, some d, rfl, J, fun b o q => ?_, ge, hoe, ⟨hc, hd⟩, hdat, h1, ?_, rfl, I1.bare, raises_own T.exC T.tyC, q1 d (I1.hok.fresh M.dbig)⟩
    · by_cases hb : b = e
      · have q' : G'.get? b = some o := q
        rw [hb, ge] at q'; cases q'
      · exact (gk b hb).symm.trans q
    · rw [upd_ne (Ne.symm M.dne)]
      exact I1.hok.fresh M.new
/-- raise Fault(e) -/
def tRaiseF (C : Addr) (W : WX) (ta : TA) : TS := fun _ σ H => tMkFlt C ta σ H fun cls d H' => W cls d σ H'
theorem ps_raiseF {a : Expr} {ta : TA} {W : WX} {p pos pos2 : Pos} {k : Nat} (hc : X.calm = true) (hP : X.prog = PP) (T : FltTxt X.K X.mg C Vw fI cc cda) (hr : Room k X.A) (tk : Takes X W) (ha : PA X [a] ta) (hg : Gl X "Fault" := by rfl)
    (he : starEach (a :: []) X.env = (false, eval a X.env) :: starEach [] X.env := by rfl) (hpl : (backTo pos (starEach [] X.env)).any (·.1) = false := by rfl) :
    PS X (.Raise (some (.Call (.Name "Fault" p) [a] [] pos)) none pos2) (tRaiseF C W ta) := ps_raise hc tk (pmk_flt hP T hr ha hg he hpl)
/-- e.message, e the exception that the suite holds (at a; its class cls, its dict d) -/
def tMsg (C : Addr) (a : Addr) (cls : Value) (d : Option Addr) (te : TE) : TE := fun σ H Q => te σ H fun x H1 => x = .ref a ∧ cls = .ref C ∧ ∃ (dd : Addr) (v : V), d = some dd ∧ H1 dd = some (msgD v) ∧ Q v H1
theorem pe_msg {a : Addr} {oe : Obj} {cls : Value} {d : Option Addr} {pn : List (Addr × Obj)} {e : Expr} {te : TE} {pos : Pos} (T : FltTxt X.K X.mg C Vw fI cc cda) (hz : Zc cls d oe) (hf : ∃ vs, oe.data = .fields vs) (he : PE (X.suite a ((a, oe) :: pn)) e te)
    (hb : attributeBase e "message" X.env (eval e X.env) = eval e X.env := by rfl) :
    PE (X.suite a ((a, oe) :: pn)) (.Attribute e "message" pos) (tMsg C a cls d te) := by
  refine ⟨fun pins s σ H Q I h => ?_⟩
  refine attr_of hb (thn (he.run pins s σ H _ I h) fun u s1 hh => ?_)
  obtain ⟨x, H1, I1, rx, ex, ec, dd, v, ed, ea, q⟩ := hh
  subst ex
  obtain rfl : u = Value.ref a := rx
  subst ec
  subst ed
  obtain ⟨ha, _⟩ := I1.pin (a, oe) (List.mem_append_left _ List.mem_cons_self)
  obtain ⟨vs, hd⟩ := hf
  have hx : ObjOk X.prog X.w H1 s1.heap dd (msgD v) := I1.hok dd _ ea
  obtain ⟨mA, hns, hr⟩ := hx
  obtain ⟨od, ho, hl⟩ := lookIn_ns hns
  have l : List.lookup ("message" : Str) [(("message" : Str), v)] = some v := by simp [List.lookup]
  obtain ⟨u, hu, ru⟩ := RelO.some_of (v := v) (o := mA "message") (by rw [← l]; exact hr "message")
  have J : PySem.W.InstAt s1.heap a oe C (some od) := ⟨ha, hz.1, by unfold PySem.W.notCls; rw [hd] <;> rfl, by rw [hz.2]; exact ho⟩
  exact HandSPX.exc_get I1.kIn J T.ga T.gg T.exC (PySem.W.findObj_own T.hdC T.noN rfl (by rw [hl, hu])) (handed_of ru) ⟨v, H1, I1.tok _, ru, q⟩
end
end Vk
set_option maxHeartbeats 4000000
/-! defs of the text and their calls; a few rules of one's own -/
namespace Vk
open PySem PySem.Spec PyProof.Rows L2
/-- a def of the text as it stands -/
def DefA (K : PySem.W.Frag) (mg : Str → Option Value) (x : Str) (st : Stmt) : Prop := ∃ f fd, FunD K x x (defArgs st) (defBody st) (defScope st) [] [] f fd ∧ mg x = some (.ref f)
/-- a def that keeps its promise, by at most k calls -/
def Cal (P : Program) (w : World) (K : PySem.W.Frag) (mg : Str → Option Value) (base : Heap) (CX : CXT) (k : Nat) (x : Str) (ps : List Str) (sp : Sp) : Prop :=
  ∃ f fd, FnOk P w K mg base CX k f fd ps sp ∧ mg x = some (.ref f) ∧ PySem.W.keepIn K (.ref f) = true ∧ Binds K fd ps []
section
variable {P : Program} {w : World} {K : PySem.W.Frag} {mg : Str → Option Value} {base : Heap} {CX : CXT} {j k : Nat} {x : Str} {ps : List Str} {sp sp' : Sp}
theorem Cal.mono (c : Cal P w K mg base CX j x ps sp) (h : j ≤ k) : Cal P w K mg base CX k x ps sp := let ⟨f, fd, a, b⟩ := c; ⟨f, fd, a.mono h, b⟩
theorem Cal.imp (c : Cal P w K mg base CX k x ps sp) (h : ∀ vs H Q E, sp' vs H Q E → sp vs H Q E) : Cal P w K mg base CX k x ps sp' := let ⟨f, fd, a, b⟩ := c; ⟨f, fd, a.imp h, b⟩
/-- a promise that is never asked for -/
theorem Cal.never {st : Stmt} (D : DefA K mg x st) (hb : ∀ f fd, FunD K x x (defArgs st) (defBody st) (defScope st) [] [] f fd → Binds K fd ps []) (no : ∀ vs H Q E, ¬ sp vs H Q E) : Cal P w K mg base CX 0 x ps sp := by
  obtain ⟨f, fd, F, g⟩ := D
  exact ⟨f, fd, ⟨fun vs H Q E h => absurd h (no vs H Q E), fun A outer s H args us vs Q E _ _ _ _ h => absurd h (no vs H Q E)⟩, g, F.kp, hb f fd F⟩
theorem cal_mk {N : List Str} {st : Stmt} (D : DefA K mg x st) (S : FnScope N ps (defScope st))
    (hb : ∀ (kV doc pm : Value) (an : Option Addr) (cdv ct : Value) (us : List Value), us.length = ps.length → bindArgs (PySem.W.fnOf x x (defArgs st) (defBody st) (defScope st) .none kV doc pm an cdv ct) ⟨us, []⟩ = pure (ps.zip us))
    (len : ∀ vs H Q E, sp vs H Q E → vs.length = ps.length)
    (hbody : ∀ (f : Addr) (cdv : Value) (A : Around) (outer : List Env) (s : Shared) (H : Hp) (vs : List V) (Q : VK) (E : XK), Room k (A.deeper (envOfC x (defScope st) s.heap.objs.size f cdv)) → sp vs H Q E →
      ∃ t, PSs (cxOf CX P w K mg base N x (defScope st) f cdv A outer s H E) (defBody st) t ∧ t { nx := fun _ H' => Q .non H', rt := Q } (start N vs) H) : Cal P w K mg base CX (k + 1) x ps sp := by
  obtain ⟨f, fd, F, g⟩ := D
  exact ⟨f, fd, F.ok S len fun cdv A outer s H vs Q E hr h => hbody f cdv A outer s H vs Q E hr h, g, F.kp, F.bindsN hb⟩
end
section
variable {X : Cx} {CX : CXT} {k : Nat} {ps : List Str} {sp : Sp} {E : XK} {x : Str} {p pos : Pos} {e : Expr} {es : List Expr} {t : TA} {te tu : TE}
/-- f(e, ..) -/
abbrev tCal (sp : Sp) (E : XK) (t : TA) : TE := fun σ H Q => t σ H fun vs H1 => sp vs H1 Q E
theorem pe_calS (c : Cal X.prog X.w X.K X.mg X.base CX k x ps sp) (hr : Room k X.A) (hg : Gl X x) (hx : ∀ σ, PassesAt CX X σ E)
    (ha : PA X (e :: es) t) (hdb : (x == ("__debug__" : Str)) = false := by decide) (he : starEach (e :: es) X.env = (false, eval e X.env) :: starEach es X.env := by rfl) (hpl : (backTo pos (starEach es X.env)).any (·.1) = false := by rfl) :
    PE X (.Call (.Name x p) (e :: es) [] pos) (tCal sp E t) := by
  obtain ⟨f, fd, F, hm, hk, hb⟩ := c
  exact pe_callS (E := fun _ => E) F hr hg hm hk hb hx ha hdb he hpl
theorem pe_cal (c : Cal X.prog X.w X.K X.mg X.base CX0 k x ps sp) (hr : Room k X.A) (hg : Gl X x)
    (ha : PA X (e :: es) t) (hdb : (x == ("__debug__" : Str)) = false := by decide) (he : starEach (e :: es) X.env = (false, eval e X.env) :: starEach es X.env := by rfl) (hpl : (backTo pos (starEach es X.env)).any (·.1) = false := by rfl) :
    PE X (.Call (.Name x p) (e :: es) [] pos) (tCal sp E0 t) := pe_calS c hr hg (fun _ _ _ _ _ _ _ z => z.elim) ha hdb he hpl
/-- either reading -/
theorem pe_or2 (h : PE X e te) (h' : PE X e tu) : PE X e (fun σ H Q => te σ H Q ∨ tu σ H Q) := ⟨fun pins s σ H Q I q => q.elim (h.run pins s σ H Q I) (h'.run pins s σ H Q I)⟩
theorem CallR.or {f : Value} {r r' : List V → Hp → VK → Prop} (h : CallR X f r) (h' : CallR X f r') : CallR X f (fun xs H Q => r xs H Q ∨ r' xs H Q) := fun pins s σ H xs us Q I rx q => q.elim (h pins s σ H xs us Q I rx) (h' pins s σ H xs us Q I rx)
/-- a built-in class as a value -/
theorem pe_ty {T : String} (hg : Gl X x) (hm : X.mg x = none) (hv : bootBuiltins x = some (.type T)) (hn : x ≠ "__name__" := by decide) (hd : (x == ("__debug__" : Str)) = false := by decide) : PE X (.Name x pos) (tC (.ty T)) := pe_bltn (v := .ty T) hg hm hv rfl hn hd
/-- a global int -/
theorem pe_gi {n : Int} {t : Tok} (hg : Gl X x) (hm : X.mg x = some (.int n t)) (hd : (x == ("__debug__" : Str)) = false := by decide) : PE X (.Name x pos) (tC (.int n)) := pe_glob hg hm ⟨t, rfl⟩ hd
/-- a global of the text, an object -/
theorem pe_gr {a : Addr} (hg : Gl X x) (hm : X.mg x = some (.ref a)) (hd : (x == ("__debug__" : Str)) = false := by decide) : PE X (.Name x pos) (tC (.ref a)) := pe_glob hg hm rfl hd
/-- while the dict is locked, or where it is locked already -/
def tLockR (t : TS) : TS := fun D σ H => tLock t D σ H ∨ t D σ H
def tLockER (t : TE) : TE := fun σ H Q => tLockE t σ H Q ∨ t σ H Q
theorem ps_lockR {st : Stmt} {t : TS} (h : PS X st t) : PS X st (tLockR t) := ⟨fun pins s σ H D I q => q.elim ((ps_lock h).run pins s σ H D I) (h.run pins s σ H D I)⟩
theorem pe_lockR (h : PE X e te) : PE X e (tLockER te) := ⟨fun pins s σ H Q I q => q.elim ((pe_lock h).run pins s σ H Q I) (h.run pins s σ H Q I)⟩
theorem call_lenDR : CallR X (.builtin "len") (fun xs H Q => ∃ a kvs, xs = [V.ref a] ∧ Rd H a (.dK kvs) ∧ Q (.int kvs.length) H) := by
  intro pins s σ H xs us Q I r h
  obtain ⟨a, kvs, rfl, ha, q⟩ := h
  obtain ⟨u, rfl, ru⟩ := vals1 r
  cases ru
  exact d_len I ha fun t s' I' => ⟨.int kvs.length, H, I', ⟨t, rfl⟩, q⟩
/-- len of a text, a list, a tuple, or a dict -/
theorem call_lenA : CallR X (.builtin "len") (fun xs H Q => (∃ x n, xs = [x] ∧ LenV X.K x H n ∧ Q (.int n) H) ∨ ∃ a kvs, xs = [V.ref a] ∧ Rd H a (.dK kvs) ∧ Q (.int kvs.length) H) := CallR.or call_len call_lenDR
/-- .. the written part named -/
theorem call_lenK {K : PySem.W.Frag} (hK : X.K = K) : CallR X (.builtin "len") (fun xs H Q => (∃ x n, xs = [x] ∧ LenV K x H n ∧ Q (.int n) H) ∨ ∃ a kvs, xs = [V.ref a] ∧ Rd H a (.dK kvs) ∧ Q (.int kvs.length) H) := by
  subst hK
  exact call_lenA
theorem ix_tupK {K : PySem.W.Frag} (hK : X.K = K) : IxR X (rIxT K) := by
  subst hK
  exact ix_tup
theorem ix_listK {K : PySem.W.Frag} (hK : X.K = K) : IxR X (rIxL K) := by
  subst hK
  exact ix_list
theorem call_maxA (hc : X.calm = true) : CallR X (.builtin "max") (fun xs H Q => (∃ i j, xs = [.int i, .int j] ∧ Q (.int (if j > i then j else i)) H) ∨ rMax X.K xs H Q) := CallR.or (call_max2 hc) (cr_max hc)
theorem call_strA : CallR X (.type "str") (fun xs H Q => (∃ i, xs = [.int i] ∧ i.natAbs.log2 < 1920 ∧ Q (.str (toString i)) H) ∨ ∃ a, xs = [.str a] ∧ Q (.str a) H) := CallR.or call_str_int SkE.call_str_str
end
/-! ### + and the orders, by kinds -/
section
variable {X : Cx}
def rAddA : R2 := fun x y H Q => rI0 (fun i j => .int (i + j)) x y H Q ∨ rCat x y H Q ∨ ∃ i j, x = .str i ∧ y = .str j ∧ i.length + j.length ≤ sizeLine ∧ Q (.str (i ++ j)) H
theorem op_addA : OpR X (binaryOp .Add) rAddA := OpR.or op_add (OpR.or op_cat op_add_str)
def rCmpA (f : Int → Int → Bool) (g : Str → Str → Bool) : R2 := fun x y H Q => (∃ i j, x = .int i ∧ y = .int j ∧ Q (.bl (f i j)) H) ∨ ∃ i j, x = .str i ∧ y = .str j ∧ Q (.bl (g i j)) H
theorem op_ltA : OpR X (compareOp .Lt) (rCmpA (fun i j => decide (i < j)) fun x y => decide (x.cps.toList < y.cps.toList)) := OpR.or op_lt op_lt_str
theorem op_leA : OpR X (compareOp .LtE) (rCmpA (fun i j => decide (i ≤ j)) fun x y => !decide (y.cps.toList < x.cps.toList)) := OpR.or op_le op_le_str
theorem op_gtA : OpR X (compareOp .Gt) (rCmpA (fun i j => decide (j < i)) fun x y => decide (y.cps.toList < x.cps.toList)) := OpR.or op_gt op_gt_str
theorem op_geA : OpR X (compareOp .GtE) (rCmpA (fun i j => decide (j ≤ i)) fun x y => !decide (x.cps.toList < y.cps.toList)) := OpR.or op_ge op_ge_str
end
/-- the built-ins' names are free -/
structure Nm (mg : Str → Option Value) : Prop where
  len : mg "len" = none
  isinstance : mg "isinstance" = none
  int : mg "int" = none
  str : mg "str" = none
  list : mg "list" = none
  dict : mg "dict" = none
  bool : mg "bool" = none
  tuple : mg "tuple" = none
  range : mg "range" = none
  max : mg "max" = none
  min : mg "min" = none
  sum : mg "sum" = none
  abs : mg "abs" = none
  sorted : mg "sorted" = none
  repr : mg "repr" = none
/-- the bounds -/
structure Cst (mg : Str → Option Value) : Prop where
  num : ∃ t, mg "MOST_NUMBER" = some (.int big30 t)
  chars : ∃ t, mg "MOST_CHARACTERS" = some (.int 2000 t)
  members : ∃ t, mg "MOST_MEMBERS" = some (.int 200 t)
  depth : ∃ t, mg "MOST_DEPTH" = some (.int 20 t)
  size : ∃ t, mg "MOST_SIZE" = some (.int 2000 t)
/-- what is promised of a fault -/
def EF (C : Addr) (H : Hp) (m : Str) (E : XK) : Prop := ∀ (dd : Addr) (H' : Hp), Same H H' → H dd = none → H' dd = some (msgD (.str m)) → E (.ref C) (some dd) H'
theorem EF.later {C : Addr} {H H1 : Hp} {m : Str} {E : XK} (h : EF C H m E) (s : Same H H1) : EF C H1 m E := fun dd H' s' n e => h dd H' (s.trans s') (s.free n) e
theorem EF.now {C : Addr} {H : Hp} {m : Str} {E : XK} (h : EF C H m E) (d : Addr) (n : H d = none) : E (.ref C) (some d) (upd H d (msgD (.str m))) :=
  h d _ (fun b u q => by rw [upd_ne (ne_of_none q n)]; exact q) n upd_same
theorem same_new {H : Hp} {p : Addr} (h : H p = none) (o : HO) : Same H (upd H p o) := fun b u q => by rw [upd_ne (ne_of_none q h)]; exact q
/-! ### tests of texts -/
theorem kd_dec (a b : Kd) : decide (V.str a.s = V.str b.s) = decide (a = b) := by cases a <;> cases b <;> decide +kernel
end Vk
set_option maxHeartbeats 4000000
/-! the kind of a value, its parts -/
namespace Vk
open PySem PySem.Spec PyProof.Rows L2
def tyN : Kd → String
  | .null => "NoneType" | .boolean => "bool" | .number => "int" | .text => "str" | .list => "list" | .record => "dict" | .act => "tuple"
theorem Rep.ty {K : PySem.W.Frag} {H : Hp} {v : V} {d : Dat} (r : Rep H v d) : TyX K H v (.type (tyN d.kd)) := by
  cases r with
  | non => exact .base .non
  | bl b => exact .base (.bl b)
  | int i => exact .base (.int i)
  | str x => exact .base (.str x)
  | lst h r => exact .base (.lst h)
  | rcd h k r => exact h.elim (fun e => .base (.dK e)) fun ⟨o, e⟩ => .fDict e
  | act h h2 r => exact .base (.tup h)
theorem Rep.isN {H : Hp} {v : V} {d : Dat} (r : Rep H v d) : decide (v = .non) = decide (d.kd = .null) := by
  cases r <;> rfl
def spKind : Sp := fun vs H Q _ => ∃ v d, vs = [v] ∧ Rep H v d ∧ Q (.str d.kd.s) H
section
variable {w : World} {K : PySem.W.Frag} {mg : Str → Option Value} {base : Heap}
abbrev s_kind_of_value : Stmt := topS 4
theorem sc_kind_of_value : FnScope ["value"] ["value"] (defScope s_kind_of_value) := ⟨rfl, rfl, rfl, by decide +kernel, rfl, by decide +kernel, by decide +kernel⟩
theorem cal_kind_of_value (D : DefA K mg "kind_of_value" s_kind_of_value) (z : Nm mg) : Cal PP w K mg base CX0 1 "kind_of_value" ["value"] spKind := by
  refine cal_mk D sc_kind_of_value (fun _ _ _ _ _ _ us hl => match us, hl with | [_], _ => rfl) (fun vs H Q E h => ?_) (fun f cdv A outer s H vs Q E hr h => ?_)
  · obtain ⟨v, d, rfl, _⟩ := h
    rfl
  obtain ⟨v, d, rfl, r, q⟩ := h
  refine ⟨_, (pss_cons (ps_if (pt_cmpR op_isN (pv 0) pe_non (nomark _)) (pss_one (ps_ret pe_str)) pss_nil)
    (pss_cons (ps_if (pt_val (pe_callB call_isi (by rfl) z.isinstance (by decide +kernel) (pa_cons (pv 0) (pa_cons (pe_ty rfl z.bool PyProof.Rows.Boot.«bool») pa_nil)))) (pss_one (ps_ret pe_str)) pss_nil)
    (pss_cons (ps_if (pt_val (pe_callB call_isi (by rfl) z.isinstance (by decide +kernel) (pa_cons (pv 0) (pa_cons (pe_ty rfl z.int PyProof.Rows.Boot.«int») pa_nil)))) (pss_one (ps_ret pe_str)) pss_nil)
    (pss_cons (ps_if (pt_val (pe_callB call_isi (by rfl) z.isinstance (by decide +kernel) (pa_cons (pv 0) (pa_cons (pe_ty rfl z.str PyProof.Rows.Boot.«str») pa_nil)))) (pss_one (ps_ret pe_str)) pss_nil)
    (pss_cons (ps_if (pt_val (pe_callB call_isi (by rfl) z.isinstance (by decide +kernel) (pa_cons (pv 0) (pa_cons (pe_ty rfl z.list PyProof.Rows.Boot.«list») pa_nil)))) (pss_one (ps_ret pe_str)) pss_nil)
    (pss_cons (ps_if (pt_val (pe_callB call_isi (by rfl) z.isinstance (by decide +kernel) (pa_cons (pv 0) (pa_cons (pe_ty rfl z.dict PyProof.Rows.Boot.«dict») pa_nil)))) (pss_one (ps_ret pe_str)) pss_nil)
    (pss_one (ps_ret pe_str)))))))), ?_⟩
  have n := r.isN
  have ty := r.ty (K := K)
  generalize d.kd = k at n ty q
  refine ⟨_, rfl, rfl, _, congrArg V.bl n, ?_⟩
  cases k with
  | null => exact iteT q
  | boolean => exact iteF ⟨_, rfl, _, _, _, _, true, rfl, .ty _, ty, kit_ty (by decide +kernel), _, rfl, iteT q⟩
  | number => exact iteF ⟨_, rfl, _, _, _, _, false, rfl, .ty _, ty, kit_ty (by decide +kernel), _, rfl, iteF ⟨_, rfl, _, _, _, _, true, rfl, .ty _, ty, kit_ty (by decide +kernel), _, rfl, iteT q⟩⟩
  | text => exact iteF ⟨_, rfl, _, _, _, _, false, rfl, .ty _, ty, kit_ty (by decide +kernel), _, rfl, iteF ⟨_, rfl, _, _, _, _, false, rfl, .ty _, ty, kit_ty (by decide +kernel), _, rfl, iteF ⟨_, rfl, _, _, _, _, true, rfl, .ty _, ty, kit_ty (by decide +kernel), _, rfl, iteT q⟩⟩⟩
  | list =>
    refine iteF ⟨_, rfl, _, _, _, _, false, rfl, .ty _, ty, kit_ty (by decide +kernel), _, rfl, iteF ⟨_, rfl, _, _, _, _, false, rfl, .ty _, ty, kit_ty (by decide +kernel), _, rfl, iteF ⟨_, rfl, _, _, _, _, false, rfl, .ty _, ty, kit_ty (by decide +kernel), _, rfl, iteF ?_⟩⟩⟩
    exact ⟨_, rfl, _, _, _, _, true, rfl, .ty _, ty, kit_ty (by decide +kernel), _, rfl, iteT q⟩
  | record =>
    refine iteF ⟨_, rfl, _, _, _, _, false, rfl, .ty _, ty, kit_ty (by decide +kernel), _, rfl, iteF ⟨_, rfl, _, _, _, _, false, rfl, .ty _, ty, kit_ty (by decide +kernel), _, rfl, iteF ⟨_, rfl, _, _, _, _, false, rfl, .ty _, ty, kit_ty (by decide +kernel), _, rfl, iteF ?_⟩⟩⟩
    exact ⟨_, rfl, _, _, _, _, false, rfl, .ty _, ty, kit_ty (by decide +kernel), _, rfl, iteF ⟨_, rfl, _, _, _, _, true, rfl, .ty _, ty, kit_ty (by decide +kernel), _, rfl, iteT q⟩⟩
  | act =>
    refine iteF ⟨_, rfl, _, _, _, _, false, rfl, .ty _, ty, kit_ty (by decide +kernel), _, rfl, iteF ⟨_, rfl, _, _, _, _, false, rfl, .ty _, ty, kit_ty (by decide +kernel), _, rfl, iteF ⟨_, rfl, _, _, _, _, false, rfl, .ty _, ty, kit_ty (by decide +kernel), _, rfl, iteF ?_⟩⟩⟩
    exact ⟨_, rfl, _, _, _, _, false, rfl, .ty _, ty, kit_ty (by decide +kernel), _, rfl, iteF ⟨_, rfl, _, _, _, _, false, rfl, .ty _, ty, kit_ty (by decide +kernel), _, rfl, iteF q⟩⟩
end
end Vk
set_option maxHeartbeats 4000000
/-! readings that come again and again -/
namespace Vk
open PySem PySem.Spec PyProof.Rows L2
/-! ### tests of kinds -/
section
variable {t u r : TS} {D : Ends} {σ : L2.St} {H : Hp} {i : Nat} {k : Kd} {Q : Bool → Hp → Prop}
theorem tt_kd (kx : Kd) (hs : σ[i]? = some (some (.str k.s))) (q : Q (decide (k = kx)) H) : tTest (tOp rEq (tVar i) (tC (.str kx.s))) σ H Q :=
  ⟨_, hs, rfl, _, congrArg V.bl (kd_dec k kx), q⟩
theorem ifk (kx : Kd) (hs : σ[i]? = some (some (.str k.s))) (a : k = kx → t D σ H) (b : k ≠ kx → u D σ H) : tIfS (tTest (tOp rEq (tVar i) (tC (.str kx.s)))) t u D σ H :=
  tt_kd (Q := fun b H1 => if b = true then t D σ H1 else u D σ H1) kx hs (ite2 (fun h => a (of_decide_eq_true h)) fun h => b fun e => h (decide_eq_true e))
theorem ifkS (kx : Kd) (hs : σ[i]? = some (some (.str k.s))) (a : k = kx → t { D with nx := r D } σ H) (b : k ≠ kx → u { D with nx := r D } σ H) : tSeq (tIfS (tTest (tOp rEq (tVar i) (tC (.str kx.s)))) t u) r D σ H :=
  ifk (D := { D with nx := r D }) kx hs a b
/-- name = value, then the rest -/
theorem setS {te : TE} (q : te σ H fun v H1 => r D (σ.set i (some v)) H1) : tSeq (tAsg te (gName i)) r D σ H := q
theorem asgS {te : TE} {g : TG} (q : te σ H fun v H1 => g v σ H1 (r D)) : tSeq (tAsg te g) r D σ H := q
theorem setD {te : TE} {v : V} (h : te = tC v) (q : r D (σ.set i (some v)) H) : tSeq (tAsg te (gName i)) r D σ H := by subst h; exact q
/-- x = kind_of_value(y) -/
theorem kset {v : V} {d : Dat} {j : Nat} (hs : σ[j]? = some (some v)) (R : Rep H v d) (q : r D (σ.set i (some (.str d.kd.s))) H) : tSeq (tAsg (tCal spKind E0 (tCons (tVar j) tNil)) (gName i)) r D σ H :=
  ⟨v, hs, v, d, rfl, R, q⟩
end
/-! ### tests whose answer is known -/
section
variable {t u r : TS} {c c' : TT} {D : Ends} {σ : L2.St} {H : Hp} {p p' : Bool}
/-- the answer is p, the heap as it was -/
def PureT (c : TT) (σ : L2.St) (H : Hp) (p : Bool) : Prop := ∀ Q : Bool → Hp → Prop, Q p H → c σ H Q
/-- the answer is p, the heap grows -/
def Tst (c : TT) (σ : L2.St) (H : Hp) (p : Bool) : Prop := ∀ Q : Bool → Hp → Prop, (∀ H', Same H H' → Q p H') → c σ H Q
theorem PureT.tst (h : PureT c σ H p) : Tst c σ H p := fun Q q => h Q (q H (.refl H))
theorem PureT.and (h : PureT c σ H p) (h' : p = true → PureT c' σ H p') : PureT (tAnd c c') σ H (p && p') := fun Q q => h _ (by
  cases p with
  | true => exact (if_pos rfl).mpr (h' rfl Q q)
  | false => exact (if_neg Bool.false_ne_true).mpr q)
theorem PureT.or (h : PureT c σ H p) (h' : p = false → PureT c' σ H p') : PureT (tOr c c') σ H (p || p') := fun Q q => h _ (by
  cases p with
  | true => exact (if_pos rfl).mpr q
  | false => exact (if_neg Bool.false_ne_true).mpr (h' rfl Q q))
theorem PureT.not (h : PureT c σ H p) : PureT (tNot c) σ H (!p) := fun Q q => h _ q
theorem Tst.and (h : Tst c σ H p) (h' : p = true → ∀ H', Same H H' → Tst c' σ H' p') : Tst (tAnd c c') σ H (p && p') := fun Q q => h _ fun H1 s1 => (by
  cases p with
  | true => exact (if_pos rfl).mpr (h' rfl H1 s1 Q fun H2 s2 => q H2 (s1.trans s2))
  | false => exact (if_neg Bool.false_ne_true).mpr (q H1 s1))
theorem Tst.or (h : Tst c σ H p) (h' : p = false → ∀ H', Same H H' → Tst c' σ H' p') : Tst (tOr c c') σ H (p || p') := fun Q q => h _ fun H1 s1 => (by
  cases p with
  | true => exact (if_pos rfl).mpr (q H1 s1)
  | false => exact (if_neg Bool.false_ne_true).mpr (h' rfl H1 s1 Q fun H2 s2 => q H2 (s1.trans s2)))
theorem Tst.not (h : Tst c σ H p) : Tst (tNot c) σ H (!p) := fun Q q => h _ q
theorem if_pure (h : PureT c σ H p) (a : p = true → t D σ H) (b : p = false → u D σ H) : tIfS c t u D σ H := h _ (by
  cases p with
  | true => exact (if_pos rfl).mpr (a rfl)
  | false => exact (if_neg Bool.false_ne_true).mpr (b rfl))
theorem if_pureS (h : PureT c σ H p) (a : p = true → t { D with nx := r D } σ H) (b : p = false → u { D with nx := r D } σ H) : tSeq (tIfS c t u) r D σ H := if_pure (D := { D with nx := r D }) h a b
theorem if_tst (h : Tst c σ H p) (a : p = true → ∀ H', Same H H' → t D σ H') (b : p = false → ∀ H', Same H H' → u D σ H') : tIfS c t u D σ H := h _ fun H' s => (by
  cases p with
  | true => exact (if_pos rfl).mpr (a rfl H' s)
  | false => exact (if_neg Bool.false_ne_true).mpr (b rfl H' s))
theorem if_tstS (h : Tst c σ H p) (a : p = true → ∀ H', Same H H' → t { D with nx := r D } σ H') (b : p = false → ∀ H', Same H H' → u { D with nx := r D } σ H') : tSeq (tIfS c t u) r D σ H := if_tst (D := { D with nx := r D }) h a b
theorem if_pureN (h : PureT c σ H p) (a : p = true → t { D with nx := r D } σ H) (b : p = false → r D σ H) : tSeq (tIfS c t tNext) r D σ H := if_pure (D := { D with nx := r D }) h a b
theorem if_tstN (h : Tst c σ H p) (a : p = true → ∀ H', Same H H' → t { D with nx := r D } σ H') (b : p = false → ∀ H', Same H H' → r D σ H') : tSeq (tIfS c t tNext) r D σ H := if_tst (D := { D with nx := r D }) h a b
theorem ifkN {i : Nat} {k : Kd} (kx : Kd) (hs : σ[i]? = some (some (.str k.s))) (a : k = kx → t { D with nx := r D } σ H) (b : k ≠ kx → r D σ H) : tSeq (tIfS (tTest (tOp rEq (tVar i) (tC (.str kx.s)))) t tNext) r D σ H :=
  ifk (D := { D with nx := r D }) kx hs a b
end
/-! ### a dict that is read -/
theorem look_rep {H : Hp} (x : Str) : ∀ {kvs : List (Key × V)} {ks : List Str} {ds : List Dat}, kvs.map (·.1) = ks.map Sum.inr → Reps H (kvs.map (·.2)) ds →
    (∃ v d, valV kvs (Sum.inr x) = some v ∧ lookK ks ds x = some d ∧ Rep H v d ∧ d ∈ ds) ∨ (valV kvs (Sum.inr x) = none ∧ lookK ks ds x = none)
  | [], ks, ds, hk, r => by
    cases ks with
    | nil => cases r; exact .inr ⟨rfl, rfl⟩
    | cons k ks => cases hk
  | p :: kvs, ks, ds, hk, r => by
    cases ks with
    | nil => cases hk
    | cons k ks =>
      rw [List.map_cons] at hk r
      cases r with
      | @cons _ d _ ds h r =>
        rw [List.map_cons, List.cons.injEq] at hk
        by_cases e : k = x
        · refine .inl ⟨p.2, d, valV_pos (hk.1.trans (congrArg Sum.inr e)), ?_, h, List.mem_cons_self⟩
          unfold lookK
          rw [if_pos e]
        · have hn : ¬ p.1 = Sum.inr x := fun q => e (Sum.inr.inj (hk.1.symm.trans q))
          have hl : lookK (k :: ks) (d :: ds) x = lookK ks ds x := by
            show (if k = x then some d else lookK ks ds x) = _
            rw [if_neg e]
          rw [valV_neg hn, hl]
          rcases look_rep x hk.2 r with ⟨v, d', a, b, c, m⟩ | z
          · exact .inl ⟨v, d', a, b, c, List.mem_cons_of_mem _ m⟩
          · exact .inr z
/-- the i-th key's own value -/
theorem valV_at {kvs : List (Key × V)} (hn : (kvs.map (·.1)).Nodup) {i : Nat} {k : Key} {v : V} (h : kvs[i]? = some (k, v)) : valV kvs k = some v := by
  induction kvs generalizing i with
  | nil => cases h
  | cons p r ih =>
    rw [List.map_cons, List.nodup_cons] at hn
    cases i with
    | zero =>
      simp only [List.getElem?_cons_zero, Option.some.injEq] at h
      subst h
      exact valV_pos rfl
    | succ i =>
      simp only [List.getElem?_cons_succ] at h
      have hm : k ∈ r.map (·.1) := List.mem_map.mpr ⟨(k, v), List.mem_of_getElem? h, rfl⟩
      rw [valV_neg (fun e => hn.1 (by rw [e]; exact hm))]
      exact ih hn.2 h
theorem keys_nodup {kvs : List (Key × V)} {ks : List Str} (hk : kvs.map (·.1) = ks.map Sum.inr) (h : ks.Nodup) : (kvs.map (·.1)).Nodup := by
  rw [hk]
  exact List.Pairwise.map _ (fun a b hab e => hab (Sum.inr.inj e)) h
theorem keys_len {kvs : List (Key × V)} {ks : List Str} (hk : kvs.map (·.1) = ks.map Sum.inr) : kvs.length = ks.length := by
  have e := congrArg List.length hk
  rw [List.length_map, List.length_map] at e
  exact e
theorem key_at {kvs : List (Key × V)} {ks : List Str} (hk : kvs.map (·.1) = ks.map Sum.inr) {i : Nat} {k : Key} {v : V} (h : kvs[i]? = some (k, v)) : ∃ x, k = Sum.inr x ∧ ks[i]? = some x := by
  have e : (kvs.map (·.1))[i]? = some k := by rw [List.getElem?_map, h]; rfl
  rw [hk, List.getElem?_map] at e
  obtain ⟨x, hx, e⟩ := Option.map_eq_some_iff.mp e
  exact ⟨x, e.symm, hx⟩
/-- the ways back from a locked dict -/
structure UnLk (H H1 : Hp) (a : Addr) (un : Hp → Hp) (kvs : List (Key × V)) (o : Obj) : Prop where
  at1 : H1 a = some (.frz o (.dK kvs))
  rd : RdSame H H1
  off1 : ∀ b, b ≠ a → H1 b = H b
  back : ∀ H', H' a = some (.frz o (.dK kvs)) → (un H') a = H a ∧ ∀ b, b ≠ a → (un H') b = H' b
theorem UnLk.un {H H1 H' : Hp} {a : Addr} {un : Hp → Hp} {kvs : List (Key × V)} {o : Obj} (u : UnLk H H1 a un kvs o) (s : Same H1 H') : Same H (un H') := fun b x e => by
  obtain ⟨p, q⟩ := u.back H' (s _ _ u.at1)
  by_cases hb : b = a
  · rw [hb] at e ⊢
    rw [p]
    exact e
  · rw [q b hb]
    exact s b x ((u.off1 b hb).trans e)
theorem UnLk.id {H H1 : Hp} {a : Addr} {un : Hp → Hp} {kvs : List (Key × V)} {o : Obj} (u : UnLk H H1 a un kvs o) : un H1 = H := funext fun b => by
  obtain ⟨p, q⟩ := u.back H1 u.at1
  by_cases hb : b = a
  · rw [hb, p]
  · rw [q b hb, u.off1 b hb]
theorem rd_ways {H : Hp} {a : Addr} {kvs : List (Key × V)} (h : Rd H a (.dK kvs)) : (H a = some (.dK kvs) ∧ ∀ o, UnLk H (upd H a (.frz o (.dK kvs))) a (fun H' => upd H' a (.dK kvs)) kvs o) ∨ ∃ o, UnLk H H a (fun H' => H') kvs o := by
  rcases h with h | ⟨o, h⟩
  · exact .inl ⟨h, fun o => ⟨upd_same, rds_lock h, fun b hb => upd_ne hb, fun H' _ => ⟨upd_same.trans h.symm, fun b hb => upd_ne hb⟩⟩⟩
  · exact .inr ⟨o, h, .refl H, fun _ _ => rfl, fun H' e => ⟨e.trans h.symm, fun _ _ => rfl⟩⟩
theorem lockER_on {t : TE} {σ : L2.St} {H : Hp} {Q : VK} {a : Addr} {kvs : List (Key × V)} (h : Rd H a (.dK kvs))
    (k : ∀ (o : Obj) (H1 : Hp) (un : Hp → Hp) (Q1 : VK), UnLk H H1 a un kvs o → (∀ v H', H' a = some (.frz o (.dK kvs)) → Q v (un H') → Q1 v H') → t σ H1 Q1) : tLockER t σ H Q := by
  rcases rd_ways h with ⟨e, u⟩ | ⟨o, u⟩
  · exact .inl ⟨a, _, e, trivial, fun od => k od _ _ _ (u od) fun v H' e q => ⟨e, q⟩⟩
  · exact .inr (k o _ _ _ u fun v H' _ q => q)
theorem lockR_on {t : TS} {σ : L2.St} {H : Hp} {D : Ends} {a : Addr} {kvs : List (Key × V)} (h : Rd H a (.dK kvs))
    (k : ∀ (o : Obj) (H1 : Hp) (un : Hp → Hp) (D1 : Ends), UnLk H H1 a un kvs o → (∀ σ' H', H' a = some (.frz o (.dK kvs)) → D.nx σ' (un H') → D1.nx σ' H') → (∀ v H', H' a = some (.frz o (.dK kvs)) → D.rt v (un H') → D1.rt v H') → t D1 σ H1) : tLockR t D σ H := by
  rcases rd_ways h with ⟨e, u⟩ | ⟨o, u⟩
  · exact .inl ⟨a, _, e, trivial, fun od => k od _ _ _ (u od) (fun v H' e q => ⟨e, q⟩) fun v H' e q => ⟨e, q⟩⟩
  · exact .inr (k o _ _ _ u (fun v H' _ q => q) fun v H' _ q => q)
/-! ### comprehensions -/
theorem wipe_one (σ : L2.St) (i : Nat) (x : Option V) : wipe ((wipe σ [i]).set i x) [i] = wipe σ [i] := by
  show ((σ.set i none).set i x).set i none = σ.set i none
  rw [List.set_set, List.set_set]
theorem wipe_at {σ : L2.St} {i j : Nat} {v : V} (h : σ[j]? = some (some v)) (n : i ≠ j) (x : Option V) : ((wipe σ [i]).set i x)[j]? = some (some v) := by
  rw [List.getElem?_set_ne n]
  show (σ.set i none)[j]? = _
  rw [List.getElem?_set_ne n]
  exact h
theorem wipe_own {σ : L2.St} {i : Nat} {v : V} (h : i < σ.length) : ((wipe σ [i]).set i (some v))[i]? = some (some v) := by
  rw [List.getElem?_set_self]
  show i < (σ.set i none).length
  rw [List.length_set]
  exact h
theorem yes_ {σ : L2.St} {H : Hp} {A B : Hp → Prop} (h : A H) : tYes σ H (fun b H3 => if b = true then A H3 else B H3) := iteT (A := A H) (B := B H) h
/-- the part of tLc behind its iterable -/
abbrev lcGo (J : It) (g : TG) (tt : TT) (te : TE) (vs : List Nat) (σ : L2.St) (Q : VK) (H1 : Hp) : Prop := ∀ D, H1 D = none → ∃ W : Nat → Nat → Hp → Prop, (∃ m, W 0 m (upd H1 D (.lst []))) ∧ ∀ i m H, W i m H →
  (J.stop i H ∧ Q (.ref D) H) ∨ (J.go i H ∧ ∃ Nx : Hp → Prop, (∀ H', Nx H' → ∃ m', m' < m ∧ W (i + 1) m' H') ∧ ∀ x H', J.yld i H x H' → g x (wipe σ vs) H' fun σ2 H2 => wipe σ2 vs = wipe σ vs ∧ tt σ2 H2 fun b H3 =>
    if b = true then te σ2 H3 fun y H4 => ∃ acc, H4 D = some (.lst acc) ∧ acc.length < sizeLine ∧ Nx (upd H4 D (.lst (acc ++ [y]))) else Nx H3)
theorem same_upd {H H' : Hp} {D : Addr} {o : HO} (s : Same H H') (h : H D = none) : Same H (upd H' D o) := fun b u e => by
  rw [upd_ne (ne_of_none e h)]
  exact s b u e
theorem upd_upd {H : Hp} {D : Addr} {o p : HO} : upd (upd H D o) D p = upd H D p := funext fun b => by
  by_cases hb : b = D
  · rw [hb, upd_same, upd_same]
  · rw [upd_ne hb, upd_ne hb, upd_ne hb]
/-- elements that leave the heap as it is -/
theorem lc_pure {J : It} {n i : Nat} {G : Hp → Prop} {Y : Nat → Hp → V → Hp → Prop} {te : TE} {σ : L2.St} {H1 : Hp} {Q : VK} (w : Walk J n G Y) (ys : List V) (hl : ys.length = n) (hz : n < sizeLine) (hG : ∀ H, Same H1 H → G H)
    (el : ∀ j x H H' y (Qk : VK), j < n → Same H1 H → Y j H x H' → ys[j]? = some y → H' = H ∧ (Qk y H → te ((wipe σ [i]).set i (some x)) H Qk))
    (fin : ∀ D, H1 D = none → Q (.ref D) (upd H1 D (.lst ys))) : lcGo J (gName i) tYes te [i] σ Q H1 := by
  intro D hD
  refine lc_it w (Pv := fun j H => H = upd H1 D (.lst (ys.take j))) (by rw [List.take_zero]) (fun j H _ p => hG H (by rw [p]; exact same_new hD _)) (fun j x H H' hj p y => ?_) (fun H p => by rw [p, ← hl, List.take_length]; exact fin D hD)
  have hs : Same H1 H := by rw [p]; exact same_new hD _
  have hy : j < ys.length := by omega
  obtain ⟨rfl, q⟩ := el j x H H' ys[j] (fun y H4 => ∃ acc, H4 D = some (.lst acc) ∧ acc.length < sizeLine ∧ upd H4 D (.lst (acc ++ [y])) = upd H1 D (.lst (ys.take (j + 1)))) hj hs y (List.getElem?_eq_getElem hy)
  refine ⟨wipe_one σ i _, yes_ (q ⟨ys.take j, by rw [p, upd_same], (by rw [List.length_take]; omega), ?_⟩)⟩
  rw [p, upd_upd, List.take_succ_eq_append_getElem hy]
/-- one more value of one's own, in a container at D -/
theorem grow_fresh {H1 H H4 : Hp} {D : Addr} {o0 o1 o2 : HO} {acc : List V} {ds : List Dat} {y : V} {d : Dat} (p1 : H D = some o1) (p3 : Same H1 H) (p4 : Freshs (upd H1 D o0) H acc ds) (s4 : Same H H4) (f4 : Fresh H H4 y d) (hD : H1 D = none) :
    Freshs (upd H1 D o0) (upd H4 D o2) (acc ++ [y]) (ds ++ [d]) := by
  obtain ⟨F, o, nd, z⟩ := p4
  obtain ⟨G', o2', nd2, z2⟩ := f4
  have one : Owns H4 [y] [d] (G' ++ []) := .cons o2' .nil
  rw [List.append_nil] at one
  have notD : ∀ a ∈ F ++ G', a ≠ D := by
    intro a ha e
    rcases List.mem_append.mp ha with ha | ha
    · have := z a ha
      rw [e, upd_same] at this
      cases this
    · have := z2 a ha
      rw [e, p1] at this
      cases this
  refine ⟨F ++ G', ((o.same s4).app one).at fun a ha => upd_ne (notD a ha), List.nodup_append.mpr ⟨nd, nd2, ?_⟩, fun a ha => ?_⟩
  · intro a ha b hb e
    obtain ⟨u, q⟩ := o.there a ha
    rw [e, z2 b hb] at q
    cases q
  · rcases List.mem_append.mp ha with ha | ha
    · exact z a ha
    · rw [upd_ne (notD a (List.mem_append_right _ ha))]
      exact p3.free (z2 a ha)
/-- a list or record at D over values of one's own -/
theorem top_fresh {H1 H : Hp} {D : Addr} {o0 : HO} {acc : List V} {ds : List Dat} (p4 : Freshs (upd H1 D o0) H acc ds) (hD : H1 D = none) {v : Dat} (mk : ∀ F, Owns H acc ds F → Own H (.ref D) v (D :: F)) : Fresh H1 H (.ref D) v := by
  obtain ⟨F, o, nd, z⟩ := p4
  refine ⟨D :: F, mk F o, List.nodup_cons.mpr ⟨fun m => ?_, nd⟩, fun a ha => ?_⟩
  · have := z D m
    rw [upd_same] at this
    cases this
  · rcases List.mem_cons.mp ha with e | ha
    · rw [e]; exact hD
    · have := z a ha
      rw [upd_ne (by intro e; rw [e, upd_same] at this; cases this)] at this
      exact this
theorem Fresh.act {H H' : Hp} {b p : Addr} {o : Int} {n : Str} {ds : List Dat} (f : Fresh H H' (.ref b) (.lst ds)) (s : Same H H') (hp : H' p = none) : Fresh H (upd H' p (.tup [.str "act", .int o, .str n, .ref b])) (.ref p) (.act o n ds) := by
  obtain ⟨F0, own, nd, z⟩ := f
  have np : ∀ a ∈ F0, a ≠ p := fun a ha e => by
    obtain ⟨u, q⟩ := own.there a ha
    rw [e, hp] at q
    cases q
  have own' := own.at (H' := upd H' p (.tup [.str "act", .int o, .str n, .ref b])) fun a ha => upd_ne (np a ha)
  cases own' with
  | @lst _ vs _ F h r =>
    exact ⟨p :: b :: F, .act upd_same h r, List.nodup_cons.mpr ⟨fun m => np p m rfl, nd⟩, fun a ha => (List.mem_cons.mp ha).elim (fun e => by rw [e]; exact s.free hp) fun m => z a m⟩
/-- elements that lay values of their own -/
theorem lc_fresh {J : It} {n i : Nat} {G : Hp → Prop} {Y : Nat → Hp → V → Hp → Prop} {te : TE} {σ : L2.St} {H1 : Hp} {Q : VK} (w : Walk J n G Y) (ds : List Dat) (hl : ds.length = n) (hz : n < sizeLine) (hG : ∀ H, Same H1 H → G H)
    (el : ∀ j x H H' d (Qk : VK), j < n → Same H1 H → Y j H x H' → ds[j]? = some d → H' = H ∧ ((∀ y H4, Same H H4 → Fresh H H4 y d → Qk y H4) → te ((wipe σ [i]).set i (some x)) H Qk))
    (fin : ∀ D H', H1 D = none → Same H1 H' → Fresh H1 H' (.ref D) (.lst ds) → Q (.ref D) H') : lcGo J (gName i) tYes te [i] σ Q H1 := by
  intro D hD
  refine lc_it w (Pv := fun j H => ∃ acc, H D = some (.lst acc) ∧ acc.length = j ∧ Same H1 H ∧ Freshs (upd H1 D (.lst [])) H acc (ds.take j)) ⟨[], upd_same, rfl, same_new hD _, by rw [List.take_zero]; exact .nil _ _⟩
    (fun j H _ ⟨_, _, _, s, _⟩ => hG H s) (fun j x H H' hj ⟨acc, p1, p2, p3, p4⟩ y => ?_) (fun H ⟨acc, p1, p2, p3, p4⟩ => ?_)
  · have hy : j < ds.length := by omega
    obtain ⟨rfl, q⟩ := el j x H H' ds[j] (fun y H4 => ∃ acc, H4 D = some (.lst acc) ∧ acc.length < sizeLine ∧ ∃ acc', (upd H4 D (.lst (acc ++ [y]))) D = some (.lst acc') ∧ acc'.length = j + 1 ∧ Same H1 (upd H4 D (.lst (acc ++ [y]))) ∧ Freshs (upd H1 D (.lst [])) (upd H4 D (.lst (acc ++ [y]))) acc' (ds.take (j + 1))) hj p3 y (List.getElem?_eq_getElem hy)
    refine ⟨wipe_one σ i _, yes_ (q fun y H4 s4 f4 => ⟨acc, s4 _ _ p1, (by omega), acc ++ [y], upd_same, by rw [List.length_append, p2]; rfl, same_upd (p3.trans s4) hD, ?_⟩)⟩
    rw [List.take_succ_eq_append_getElem hy]
    exact grow_fresh p1 p3 p4 s4 f4 hD
  · rw [← hl, List.take_length] at p4
    exact fin D H hD p3 (top_fresh p4 hD fun F o => .lst p1 o)
/-- the part of tDc behind its iterable -/
abbrev dcGo (J : It) (g : TG) (tt : TT) (tk tv : TE) (vs : List Nat) (σ : L2.St) (Q : VK) (H1 : Hp) : Prop := ∀ D, H1 D = none → ∃ W : Nat → Nat → Hp → Prop, (∃ m, W 0 m (upd H1 D (.dK []))) ∧ ∀ i m H, W i m H →
  (J.stop i H ∧ Q (.ref D) H) ∨ (J.go i H ∧ ∃ Nx : Hp → Prop, (∀ H', Nx H' → ∃ m', m' < m ∧ W (i + 1) m' H') ∧ ∀ x H', J.yld i H x H' → g x (wipe σ vs) H' fun σ2 H2 => wipe σ2 vs = wipe σ vs ∧ tt σ2 H2 fun b H3 =>
    if b = true then tk σ2 H3 fun y H4 => tv σ2 H4 fun z H5 => ∃ kvs k, y = kV k ∧ H5 D = some (.dK kvs) ∧ kvs.length < sizeLine ∧ Nx (upd H5 D (.dK (putK kvs k z))) else Nx H3)
theorem valV_fresh {kvs : List (Key × V)} {k : Key} (h : k ∉ kvs.map (·.1)) : valV kvs k = none := by
  cases q : valV kvs k with
  | none => rfl
  | some v => exact absurd (valV_in q) h
theorem dc_fresh {J : It} {n i : Nat} {G : Hp → Prop} {Y : Nat → Hp → V → Hp → Prop} {tk tv : TE} {σ : L2.St} {H1 : Hp} {Q : VK} (w : Walk J n G Y) (ks : List Str) (ds : List Dat) (lk : ks.length = n) (hl : ds.length = n) (nd : ks.Nodup) (hz : n < sizeLine) (hG : ∀ H, Same H1 H → G H)
    (el : ∀ j x H H' k d (Qk : V → V → Hp → Prop), j < n → Same H1 H → Y j H x H' → ks[j]? = some k → ds[j]? = some d → H' = H ∧ ((∀ y H4, Same H H4 → Fresh H H4 y d → Qk (.str k) y H4) → tk ((wipe σ [i]).set i (some x)) H fun y H4 => tv ((wipe σ [i]).set i (some x)) H4 fun z H5 => Qk y z H5))
    (fin : ∀ D H', H1 D = none → Same H1 H' → Fresh H1 H' (.ref D) (.rcd ks ds) → Q (.ref D) H') : dcGo J (gName i) tYes tk tv [i] σ Q H1 := by
  intro D hD
  let Pv : Nat → Hp → Prop := fun j H => ∃ kvs, H D = some (.dK kvs) ∧ kvs.map (·.1) = (ks.take j).map Sum.inr ∧ Same H1 H ∧ Freshs (upd H1 D (.dK [])) H (kvs.map (·.2)) (ds.take j)
  refine ⟨fun i m H => m = n - i ∧ i ≤ n ∧ Pv i H, ⟨n, by simp, Nat.zero_le _, [], upd_same, by rw [List.take_zero]; rfl, same_new hD _, by rw [List.take_zero]; exact .nil _ _⟩, ?_⟩
  rintro j m H ⟨rfl, hi, kvs, p1, p2, p3, p4⟩
  have q := hG H p3
  by_cases hj : j < n
  · refine .inr ⟨w.goes j H hj q, Pv (j + 1), fun H' p' => ⟨n - (j + 1), by omega, rfl, hj, p'⟩, fun x H' y => ?_⟩
    have y := w.yields j H x H' hj q y
    have hk : j < ks.length := by omega
    have hy : j < ds.length := by omega
    obtain ⟨rfl, q⟩ := el j x H H' ks[j] ds[j] (fun y z H5 => ∃ kvs k, y = kV k ∧ H5 D = some (.dK kvs) ∧ kvs.length < sizeLine ∧ Pv (j + 1) (upd H5 D (.dK (putK kvs k z)))) hj p3 y (List.getElem?_eq_getElem hk) (List.getElem?_eq_getElem hy)
    have lk' : kvs.length = j := by
      have := keys_len p2
      rw [List.length_take] at this
      omega
    have nw : valV kvs (Sum.inr ks[j]) = none := valV_fresh fun m => by
      rw [p2] at m
      obtain ⟨x, hx, e⟩ := List.mem_map.mp m
      cases e
      have h := nd
      rw [← List.take_append_drop j ks, List.nodup_append] at h
      exact h.2.2 _ hx ks[j] (by rw [List.drop_eq_getElem_cons hk]; exact List.mem_cons_self) rfl
    refine ⟨wipe_one σ i _, yes_ (q fun y H4 s4 f4 => ⟨kvs, .inr ks[j], rfl, s4 _ _ p1, by omega, _, upd_same, ?_, same_upd (p3.trans s4) hD, ?_⟩)⟩
    · rw [putK_new _ nw, List.map_append, p2, List.take_succ_eq_append_getElem hk, List.map_append]
      rfl
    · rw [putK_new _ nw, List.map_append, List.take_succ_eq_append_getElem hy]
      exact grow_fresh p1 p3 p4 s4 f4 hD
  · have e : j = n := by omega
    subst e
    rw [← hl, List.take_length] at p4
    rw [← lk, List.take_length] at p2
    exact .inl ⟨w.stops H q, fin D H hD p3 (top_fresh p4 hD fun F o => .rcd p1 p2 o)⟩
end Vk
set_option maxHeartbeats 4000000
/-! parts_of, text_of -/
namespace Vk
open PySem PySem.Spec PyProof.Rows L2
/-- the parts of it, in a list -/
def spParts : Sp := fun vs H Q _ => ∃ v d, vs = [v] ∧ Rep H v d ∧ d.WD ∧ ∀ p ws H', Same H H' → H' p = some (.lst ws) → Reps H' ws d.parts → Q (.ref p) H'
section
variable {w : World} {K : PySem.W.Frag} {mg : Str → Option Value} {base : Heap}
abbrev s_parts_of : Stmt := topS 5
theorem sc_parts_of : FnScope ["value", "kind", "name"] ["value"] (defScope s_parts_of) := ⟨rfl, rfl, rfl, by decide +kernel, rfl, by decide +kernel, by decide +kernel⟩
theorem cal_parts_of (D : DefA K mg "parts_of" s_parts_of) (z : Nm mg) (c_kind_of_value : Cal PP w K mg base CX0 1 "kind_of_value" ["value"] spKind) : Cal PP w K mg base CX0 2 "parts_of" ["value"] spParts := by
  refine cal_mk D sc_parts_of (fun _ _ _ _ _ _ us hl => match us, hl with | [_], _ => rfl) (fun vs H Q E h => ?_) (fun f cdv A outer s H vs Q E hr h => ?_)
  · obtain ⟨v, d, rfl, _⟩ := h
    rfl
  obtain ⟨v, d, rfl, R, wd, q⟩ := h
  have hu := hu_of hr
  refine ⟨_, (pss_cons (ps_set (i := 1) sc_parts_of.nd rfl (Or.inl rfl) (pe_cal c_kind_of_value hr (by rfl) (pa_cons (pv 0) pa_nil)))
    (pss_cons (ps_if (pt_cmpR op_eq (pv 1) pe_str (nomark _)) (pss_one (ps_ret (pv 0))) pss_nil)
    (pss_cons (ps_if (pt_cmpR op_eq (pv 1) pe_str (nomark _)) (pss_one (ps_ret (pe_lockR (pe_lc (own := [("name", 2)]) (g := gName 2) (tt := tYes) rfl sc_parts_of.nd (pi_keys (pv 0)) (blkOk_by (N := ["value", "kind", "name"]) (sc := defScope s_parts_of) (by decide +kernel)) (fun _ _ _ _ _ => pg_name (i := 2) sc_parts_of.nd rfl (Or.inl rfl)) (fun _ _ _ _ _ => pts_nil) (fun _ _ _ _ _ => (pe_dget hu (pv 0) (pv 2) (fun _ _ => rfl))))))) pss_nil)
    (pss_cons (ps_if (pt_cmpR op_eq (pv 1) pe_str (nomark _)) (pss_one (ps_ret (pe_ix ix_tup (pv 0) pe_int (fun _ _ => rfl)))) pss_nil)
    (pss_one (ps_ret (pe_lst pa_nil))))))), ?_⟩
  refine kset rfl R (ifkS .list rfl (fun e => ?_) fun n1 => ifkS .record rfl (fun e => ?_) fun n2 => ifkS .act rfl (fun e => ?_) fun n3 => ?_)
  · cases R with
    | lst h r => exact ⟨_, rfl, q _ _ _ (.refl H) h r⟩
    | _ => cases e
  · cases R with
    | @rcd a kvs ks ds h hk r =>
      refine lockER_on h fun o H1 un Q1 u hq => ⟨_, rfl, _, _, rfl, .inl ⟨kvs, u.at1, ?_⟩⟩
      have nd := keys_nodup hk wd.1
      have hlen := r.length
      have ln : (kvs.map (·.2)).length = kvs.length := List.length_map _
      refine lc_pure walk_keys (kvs.map (·.2)) ln ?_ (fun H2 s => s _ _ u.at1) (fun j x H2 H' y Qk hj s2 hy e => ⟨hy.1, fun qk => ?_⟩) fun D hD => ?_
      · have w3 := wd.2.2.1
        have w2 := wd.2.1
        rw [keys_len hk]
        exact small1000 (by omega)
      · obtain ⟨k, v, hv, rfl⟩ := hy.2
        rw [List.getElem?_map, hv] at e
        cases e
        exact ⟨_, rfl, _, rfl, _, v, rfl, .inl ⟨kvs, k, .inr ⟨o, s2 _ _ u.at1⟩, rfl, (valV_at nd hv).symm⟩, qk⟩
      · refine hq _ _ ?_ (q D (kvs.map (·.2)) _ (u.un (same_new hD _)) ?_ (r.mono (rds_of (u.un (same_new hD _)))))
        · rw [upd_ne (ne_of_none u.at1 hD)]
          exact u.at1
        · refine ((u.back (upd H1 D (.lst (kvs.map (·.2)))) ?_).2 D (fun e => (ne_of_none u.at1 hD) e.symm)).trans upd_same
          rw [upd_ne (ne_of_none u.at1 hD)]
          exact u.at1
    | _ => cases e
  · cases R with
    | act h h2 r => exact ⟨_, rfl, _, _, 3, _, rfl, rfl, .inl (.inl h), rfl, q _ _ _ (.refl H) h2 r⟩
    | _ => cases e
  · refine ⟨by decide, fun p hp => q p _ _ (same_new hp _) upd_same ?_⟩
    have e : d.parts = [] := by cases d <;> first | rfl | exact absurd rfl n1 | exact absurd rfl n2 | exact absurd rfl n3
    rw [e]
    exact .nil
end
end Vk
set_option maxHeartbeats 4000000
/-! same -/
namespace Vk
open PySem PySem.Spec PyProof.Rows L2
theorem sameD_kd {d e : Dat} (h : d.kd ≠ e.kd) : sameD d e = false := by
  cases d <;> cases e <;> first | rfl | exact absurd rfl h
theorem sameL_ne : ∀ {ds es : List Dat}, ds.length ≠ es.length → sameL ds es = false
  | [], [], h => absurd rfl h
  | [], _ :: _, _ => rfl
  | _ :: _, [], _ => rfl
  | d :: ds, e :: es, h => by
    rw [sameL, sameL_ne (fun q => h (congrArg (· + 1) q)), Bool.and_false]
theorem sameL_all : ∀ {ds es : List Dat}, ds.length = es.length → (∀ (i : Nat) (d e : Dat), ds[i]? = some d → es[i]? = some e → sameD d e = true) → sameL ds es = true
  | [], [], _, _ => rfl
  | [], _ :: _, h, _ => by cases h
  | _ :: _, [], h, _ => by cases h
  | d :: ds, e :: es, h, k => by
    rw [sameL, k 0 d e rfl rfl, Bool.true_and]
    exact sameL_all (Nat.succ.inj h) fun i a b ha hb => k (i + 1) a b ha hb
theorem sameL_one : ∀ {ds es : List Dat} {i : Nat} {d e : Dat}, ds[i]? = some d → es[i]? = some e → sameD d e = false → sameL ds es = false
  | d :: ds, e :: es, 0, _, _, h1, h2, h => by
    cases h1
    cases h2
    rw [sameL, h, Bool.false_and]
  | d :: ds, e :: es, i + 1, _, _, h1, h2, h => by
    rw [sameL, sameL_one (ds := ds) (es := es) (i := i) h1 h2 h, Bool.and_false]
theorem sameF_all {ls : List Str} {es : List Dat} : ∀ {ks : List Str} {ds : List Dat}, ks.length = ds.length → (∀ (i : Nat) (k : Str) (d : Dat), ks[i]? = some k → ds[i]? = some d → ∃ e, lookK ls es k = some e ∧ sameD d e = true) → sameF ks ds ls es = true
  | [], [], _, _ => by rw [sameF]; exact fun _ _ _ _ h => by cases h
  | [], _ :: _, h, _ => by cases h
  | _ :: _, [], h, _ => by cases h
  | k :: ks, d :: ds, h, q => by
    obtain ⟨e, h1, h2⟩ := q 0 k d rfl rfl
    rw [sameF, h1]
    show (sameD d e && _) = true
    rw [h2, Bool.true_and]
    exact sameF_all (Nat.succ.inj h) fun i a b ha hb => q (i + 1) a b ha hb
theorem sameF_one {ls : List Str} {es : List Dat} : ∀ {ks : List Str} {ds : List Dat} {i : Nat} {k : Str} {d : Dat}, ks[i]? = some k → ds[i]? = some d → (∀ e, lookK ls es k = some e → sameD d e = false) → sameF ks ds ls es = false
  | k :: ks, d :: ds, 0, _, _, h1, h2, h => by
    cases h1
    cases h2
    rw [sameF]
    cases q : lookK ls es k with
    | none => rfl
    | some e =>
      show (sameD d e && _) = false
      rw [h e q, Bool.false_and]
  | k :: ks, d :: ds, i + 1, _, _, h1, h2, h => by
    rw [sameF, sameF_one (ks := ks) (ds := ds) (i := i) h1 h2 h, Bool.and_false]
def spSame (n : Nat) : Sp := fun vs H Q _ => ∃ v w d e, vs = [v, w] ∧ Rep H v d ∧ Rep H w e ∧ d.WD ∧ d.dep ≤ n ∧ Q (.bl (sameD d e)) H
def spMembers (n : Nat) : Sp := fun vs H Q _ => ∃ a b us ws ds es, vs = [.ref a, .ref b] ∧ H a = some (.lst us) ∧ H b = some (.lst ws) ∧ Reps H us ds ∧ Reps H ws es ∧ WDL ds ∧ ds.length ≤ 5000 ∧ depL ds ≤ n ∧ Q (.bl (sameL ds es)) H
def spFields (n : Nat) : Sp := fun vs H Q _ => ∃ a b kvs lvs ks ls ds es, vs = [.ref a, .ref b] ∧ Rd H a (.dK kvs) ∧ Rd H b (.dK lvs) ∧ kvs.map (·.1) = ks.map Sum.inr ∧ lvs.map (·.1) = ls.map Sum.inr ∧ Reps H (kvs.map (·.2)) ds ∧ Reps H (lvs.map (·.2)) es ∧ (Dat.rcd ks ds).WD ∧ depL ds ≤ n ∧ Q (.bl ((ks.length == ls.length) && sameF ks ds ls es)) H
section
variable {w : World} {K : PySem.W.Frag} {mg : Str → Option Value} {base : Heap} {n k : Nat}
abbrev s_same_members : Stmt := topS 7
theorem sc_same_members : FnScope ["first", "second", "index"] ["first", "second"] (defScope s_same_members) := ⟨rfl, rfl, rfl, by decide +kernel, rfl, by decide +kernel, by decide +kernel⟩
theorem cal_same_members (D : DefA K mg "same_members" s_same_members) (z : Nm mg) (c_same : Cal PP w K mg base CX0 k "same" ["first", "second"] (spSame n)) : Cal PP w K mg base CX0 (k + 1) "same_members" ["first", "second"] (spMembers n) := by
  refine cal_mk D sc_same_members (fun _ _ _ _ _ _ us hl => match us, hl with | [_, _], _ => rfl) (fun vs H Q E h => ?_) (fun f cdv A outer s H vs Q E hr h => ?_)
  · obtain ⟨a, b, us, ws, ds, es, rfl, _⟩ := h
    rfl
  obtain ⟨a, b, us, ws, ds, es, rfl, ha, hb, R1, R2, wd, ln, dp, q⟩ := h
  refine ⟨_, (pss_cons (ps_if (pt_cmpR op_ne (pe_callB (call_lenK (K := K) rfl) (by rfl) z.len (by decide +kernel) (pa_cons (pv 0) pa_nil)) (pe_callB (call_lenK (K := K) rfl) (by rfl) z.len (by decide +kernel) (pa_cons (pv 1) pa_nil)) (nomark _)) (pss_one (ps_ret pe_bl)) pss_nil)
    (pss_cons (ps_for (passes_of rfl) rfl (pi_range1 (by rfl) z.range (pa_cons (pe_callB (call_lenK (K := K) rfl) (by rfl) z.len (by decide +kernel) (pa_cons (pv 0) pa_nil)) pa_nil)) (pg_name (i := 2) sc_same_members.nd rfl (Or.inl rfl)) (pss_one (ps_if (pt_not (pt_val (pe_cal c_same hr (by rfl) (pa_cons (pe_ix ix_list (pv 0) (pv 2) (fun _ _ => rfl)) (pa_cons (pe_ix ix_list (pv 1) (pv 2) (fun _ _ => rfl)) pa_nil))))) (pss_one (ps_ret pe_bl)) pss_nil)))
    (pss_one (ps_ret pe_bl)))), ?_⟩
  have l1 := R1.length
  have l2 := R2.length
  refine ⟨_, rfl, .inl ⟨_, us.length, rfl, .inl ⟨us, .inl (.inl ha), rfl⟩, _, rfl, .inl ⟨_, ws.length, rfl, .inl ⟨ws, .inl (.inl hb), rfl⟩, rfl, _, rfl, ?_⟩⟩⟩
  by_cases hl : us.length = ws.length
  · rw [hl, decide_eq_true rfl]
    refine iteF ⟨_, rfl, .inl ⟨_, us.length, rfl, .inl ⟨us, .inl (.inl ha), rfl⟩, (us.length : Int), rfl, by omega, by omega, ?_⟩⟩
    rw [Int.toNat_natCast]
    have n3 : ∀ {σ : L2.St} {x : V}, σ.length = 3 → σ[0]? = some (some (V.ref a)) → σ[1]? = some (some (V.ref b)) → (σ.set 2 (some x))[2]? = some (some x) ∧ (σ.set 2 (some x))[0]? = some (some (V.ref a)) ∧ (σ.set 2 (some x))[1]? = some (some (V.ref b)) ∧ (σ.set 2 (some x)).length = 3 :=
      fun h h0 h1 => ⟨by rw [List.getElem?_set_self (by omega)], by rw [List.getElem?_set_ne (by decide)]; exact h0, by rw [List.getElem?_set_ne (by decide)]; exact h1, by rw [List.length_set]; exact h⟩
    refine for_it walk_range (Pv := fun j σ H' => H' = H ∧ σ.length = 3 ∧ σ[0]? = some (some (V.ref a)) ∧ σ[1]? = some (some (V.ref b)) ∧ ∀ i < j, ∀ d e, ds[i]? = some d → es[i]? = some e → sameD d e = true)
      ⟨rfl, rfl, rfl, rfl, fun i hi => absurd hi (Nat.not_lt_zero i)⟩ (fun _ _ _ _ _ => trivial) (fun j x σ H1 H' hj p y => ?_) fun σ H' p => ?_
    · obtain ⟨rfl, p1, p2, p3, p4⟩ := p
      obtain ⟨rfl, rfl⟩ := y
      obtain ⟨m2, m0, m1, m3⟩ := n3 (x := .int (0 + (j : Nat))) p1 p2 p3
      have h1 : us[j]? = some us[j] := List.getElem?_eq_getElem hj
      have h2 : ws[j]? = some (ws[j]'(by omega)) := List.getElem?_eq_getElem (by omega)
      obtain ⟨d, e1, r1⟩ := R1.get h1
      obtain ⟨e, e2, r2⟩ := R2.get h2
      have zi : (0 : Int) + (j : Nat) = (j : Nat) := Int.zero_add _
      refine ⟨_, m0, _, m2, a, us, _, _, rfl, rfl, .inl (.inl ha), by rw [zi]; exact atI_nat h1, _, m1, _, m2, b, ws, _, _, rfl, rfl, .inl (.inl hb), by rw [zi]; exact atI_nat h2, _, _, d, e, rfl, r1, r2, wd.mem (List.mem_of_getElem? e1), Nat.le_trans (dep_mem (List.mem_of_getElem? e1)) dp, _, rfl, ?_⟩
      cases hs : sameD d e with
      | false => exact iteT (show Q (.bl false) H' from by rw [← sameL_one e1 e2 hs]; exact q)
      | true =>
        refine iteF ⟨rfl, m3, m0, m1, fun i hi d' e' hd he => ?_⟩
        by_cases hij : i = j
        · subst hij
          rw [e1] at hd
          rw [e2] at he
          cases hd
          cases he
          exact hs
        · exact p4 i (by omega) d' e' hd he
    · obtain ⟨rfl, _, _, _, p4⟩ := p
      show Q (.bl true) H'
      rw [← sameL_all (ds := ds) (es := es) (by omega) fun i d e h1 h2 => p4 i (by rw [l1]; exact (List.getElem?_eq_some_iff.mp h1).1) d e h1 h2]
      exact q
  · rw [decide_eq_false (fun e => hl (by injection e with e; omega))]
    refine iteT (show Q (.bl false) H from ?_)
    rw [← sameL_ne (ds := ds) (es := es) (by omega)]
    exact q
abbrev s_same_fields : Stmt := topS 8
theorem sc_same_fields : FnScope ["first", "second", "name"] ["first", "second"] (defScope s_same_fields) := ⟨rfl, rfl, rfl, by decide +kernel, rfl, by decide +kernel, by decide +kernel⟩
theorem cal_same_fields (D : DefA K mg "same_fields" s_same_fields) (z : Nm mg) (c_same : Cal PP w K mg base CX0 k "same" ["first", "second"] (spSame n)) : Cal PP w K mg base CX0 (k + 1) "same_fields" ["first", "second"] (spFields n) := by
  refine cal_mk D sc_same_fields (fun _ _ _ _ _ _ us hl => match us, hl with | [_, _], _ => rfl) (fun vs H Q E h => ?_) (fun f cdv A outer s H vs Q E hr h => ?_)
  · obtain ⟨a, b, kvs, lvs, ks, ls, ds, es, rfl, _⟩ := h
    rfl
  obtain ⟨a, b, kvs, lvs, ks, ls, ds, es, rfl, ha, hb, k1, k2, R1, R2, wd, dp, q⟩ := h
  have hu := hu_of hr
  refine ⟨_, (pss_cons (ps_if (pt_cmpR op_ne (pe_callB (call_lenK (K := K) rfl) (by rfl) z.len (by decide +kernel) (pa_cons (pv 0) pa_nil)) (pe_callB (call_lenK (K := K) rfl) (by rfl) z.len (by decide +kernel) (pa_cons (pv 1) pa_nil)) (nomark _)) (pss_one (ps_ret pe_bl)) pss_nil)
    (pss_cons (ps_lockR (ps_for (passes_of rfl) rfl (pi_keys (pv 0)) (pg_name (i := 2) sc_same_fields.nd rfl (Or.inl rfl)) (pss_one (ps_if (PW.pt (pw_or (pt_cmp (pc_dnotin hu (pv 2) (pv 1))) (pw_or1 (pt_not (pt_val (pe_cal c_same hr (by rfl) (pa_cons (pe_dget hu (pv 0) (pv 2) (fun _ _ => rfl)) (pa_cons (pe_dget hu (pv 1) (pv 2) (fun _ _ => rfl)) pa_nil)))))))) (pss_one (ps_ret pe_bl)) pss_nil))))
    (pss_one (ps_ret pe_bl)))), ?_⟩
  have l1 := keys_len k1
  have l2 := keys_len k2
  have l3 := R1.length
  rw [List.length_map] at l3
  have nd := keys_nodup k1 wd.1
  refine ⟨_, rfl, .inr ⟨_, kvs, rfl, ha, _, rfl, .inr ⟨_, lvs, rfl, hb, rfl, _, rfl, ?_⟩⟩⟩
  by_cases hl : kvs.length = lvs.length
  · rw [hl, decide_eq_true rfl]
    have lb : (ks.length == ls.length) = true := by rw [← l1, ← l2, hl]; exact BEq.rfl
    rw [lb, Bool.true_and] at q
    refine iteF (lockR_on ha fun o H1 un D1 u hnx hrt => ?_)
    have n3 : ∀ {σ : L2.St} {x : V}, σ.length = 3 → σ[0]? = some (some (V.ref a)) → σ[1]? = some (some (V.ref b)) → (σ.set 2 (some x))[2]? = some (some x) ∧ (σ.set 2 (some x))[0]? = some (some (V.ref a)) ∧ (σ.set 2 (some x))[1]? = some (some (V.ref b)) ∧ (σ.set 2 (some x)).length = 3 :=
      fun h h0 h1 => ⟨by rw [List.getElem?_set_self (by omega)], by rw [List.getElem?_set_ne (by decide)]; exact h0, by rw [List.getElem?_set_ne (by decide)]; exact h1, by rw [List.length_set]; exact h⟩
    refine ⟨_, rfl, a, o, rfl, .inl ⟨kvs, u.at1, ?_⟩⟩
    refine for_it walk_keys (Pv := fun j σ H' => H' = H1 ∧ σ.length = 3 ∧ σ[0]? = some (some (V.ref a)) ∧ σ[1]? = some (some (V.ref b)) ∧ ∀ i < j, ∀ k d, ks[i]? = some k → ds[i]? = some d → ∃ e, lookK ls es k = some e ∧ sameD d e = true)
      ⟨rfl, rfl, rfl, rfl, fun i hi => absurd hi (Nat.not_lt_zero i)⟩ (fun _ _ _ _ p => by rw [p.1]; exact u.at1) (fun j x σ H2 H' hj p y => ?_) fun σ H' p => ?_
    · obtain ⟨rfl, p1, p2, p3, p4⟩ := p
      obtain ⟨rfl, kk, v, hv, rfl⟩ := y
      obtain ⟨kx, rfl, hk⟩ := key_at k1 hv
      obtain ⟨m2, m0, m1, m3⟩ := n3 (x := V.str kx) p1 p2 p3
      have hv2 : (kvs.map (·.2))[j]? = some v := by rw [List.getElem?_map, hv]; rfl
      obtain ⟨d, e1, r1⟩ := (R1.mono u.rd).get hv2
      have fin : (∀ e, lookK ls es kx = some e → sameD d e = false) → D1.rt (.bl false) H' := fun hf => hrt _ _ u.at1 (by rw [u.id, ← sameF_one (ls := ls) (es := es) hk e1 hf]; exact q)
      have R2' := R2.mono u.rd
      have hb' := u.rd.dic _ _ hb
      rcases look_rep kx k2 R2' with ⟨v2, e, g1, g2, r2, m⟩ | ⟨g1, g2⟩
      · refine ⟨_, m2, _, m1, b, _, rfl, .inl ⟨lvs, .inr kx, hb', rfl, rfl⟩, ?_⟩
        rw [g1]
        refine ⟨_, rfl, iteF ?_⟩
        refine ⟨_, m0, _, m2, a, v, rfl, .inl ⟨kvs, .inr kx, .inr ⟨o, u.at1⟩, rfl, (valV_at nd hv).symm⟩, _, m1, _, m2, b, v2, rfl, .inl ⟨lvs, .inr kx, hb', rfl, g1.symm⟩, v, v2, d, e, rfl, r1, r2, wd.2.2.2.2.mem (List.mem_of_getElem? e1), Nat.le_trans (dep_mem (List.mem_of_getElem? e1)) dp, _, rfl, ?_⟩
        cases hs : sameD d e with
        | false => exact iteT (fin fun e' h' => by rw [g2] at h'; cases h'; exact hs)
        | true =>
          refine iteF ⟨rfl, m3, m0, m1, fun i hi k' d' hk' hd => ?_⟩
          by_cases hij : i = j
          · subst hij
            rw [e1] at hd
            rw [hk] at hk'
            cases hd
            cases hk'
            exact ⟨e, g2, hs⟩
          · exact p4 i (by omega) k' d' hk' hd
      · refine ⟨_, m2, _, m1, b, _, rfl, .inl ⟨lvs, .inr kx, hb', rfl, rfl⟩, ?_⟩
        rw [g1]
        exact ⟨_, rfl, iteT (iteT (fin fun e h => by rw [g2] at h; cases h))⟩
    · obtain ⟨rfl, _, _, _, p4⟩ := p
      refine hnx _ _ u.at1 ?_
      rw [u.id]
      show Q (.bl true) H
      rw [← sameF_all (ks := ks) (ds := ds) (ls := ls) (es := es) (by omega) fun i k' d h1 h2 => p4 i (by rw [l1]; exact (List.getElem?_eq_some_iff.mp h1).1) k' d h1 h2]
      exact q
  · rw [decide_eq_false (fun e => hl (by injection e with e; omega))]
    refine iteT (show Q (.bl false) H from ?_)
    have lb : (ks.length == ls.length) = false := by rw [← l1, ← l2]; exact beq_false_of_ne hl
    rw [lb, Bool.false_and] at q
    exact q
abbrev s_same : Stmt := topS 6
theorem sc_same : FnScope ["first", "second", "kind"] ["first", "second"] (defScope s_same) := ⟨rfl, rfl, rfl, by decide +kernel, rfl, by decide +kernel, by decide +kernel⟩
theorem cal_same (D : DefA K mg "same" s_same) (z : Nm mg) (c_kind_of_value : Cal PP w K mg base CX0 1 "kind_of_value" ["value"] spKind) (hk : 1 ≤ k)
    (c_same_members : Cal PP w K mg base CX0 k "same_members" ["first", "second"] (spMembers n)) (c_same_fields : Cal PP w K mg base CX0 k "same_fields" ["first", "second"] (spFields n)) : Cal PP w K mg base CX0 (k + 1) "same" ["first", "second"] (spSame (n + 1)) := by
  have c_kind_of_value := c_kind_of_value.mono hk
  refine cal_mk D sc_same (fun _ _ _ _ _ _ us hl => match us, hl with | [_, _], _ => rfl) (fun vs H Q E h => ?_) (fun f cdv A outer s H vs Q E hr h => ?_)
  · obtain ⟨v, w, d, e, rfl, _⟩ := h
    rfl
  obtain ⟨v, w, d, e, rfl, R1, R2, wd, dp, q⟩ := h
  refine ⟨_, (pss_cons (ps_set (i := 2) sc_same.nd rfl (Or.inl rfl) (pe_cal c_kind_of_value hr (by rfl) (pa_cons (pv 0) pa_nil)))
    (pss_cons (ps_if (pt_cmpR op_ne (pv 2) (pe_cal c_kind_of_value hr (by rfl) (pa_cons (pv 1) pa_nil)) (nomark _)) (pss_one (ps_ret pe_bl)) pss_nil)
    (pss_cons (ps_if (pt_cmpR op_eq (pv 2) pe_str (nomark _)) (pss_one (ps_ret (pe_cal c_same_members hr (by rfl) (pa_cons (pv 0) (pa_cons (pv 1) pa_nil))))) pss_nil)
    (pss_cons (ps_if (pt_cmpR op_eq (pv 2) pe_str (nomark _)) (pss_one (ps_ret (pe_cal c_same_fields hr (by rfl) (pa_cons (pv 0) (pa_cons (pv 1) pa_nil))))) pss_nil)
    (pss_cons (ps_if (pt_cmpR op_eq (pv 2) pe_str (nomark _)) (pss_one (ps_ret (pe_and (pe_cmpR op_eq (pe_ix ix_tup (pv 0) pe_int (fun _ _ => rfl)) (pe_ix ix_tup (pv 1) pe_int (fun _ _ => rfl)) (nomark _)) (pe_and (pe_cmpR op_eq (pe_ix ix_tup (pv 0) pe_int (fun _ _ => rfl)) (pe_ix ix_tup (pv 1) pe_int (fun _ _ => rfl)) (nomark _)) (pe_one (pe_cal c_same_members hr (by rfl) (pa_cons (pe_ix ix_tup (pv 0) pe_int (fun _ _ => rfl)) (pa_cons (pe_ix ix_tup (pv 1) pe_int (fun _ _ => rfl)) pa_nil)))))))) pss_nil)
    (pss_one (ps_ret (pe_cmpR op_eq (pv 0) (pv 1) (nomark _))))))))), ?_⟩
  refine kset rfl R1 ⟨_, rfl, _, rfl, w, e, rfl, R2, rfl, _, rfl, ?_⟩
  rw [kd_dec]
  by_cases he : d.kd = e.kd
  · rw [decide_eq_true he]
    refine iteF (ifkS .list rfl (fun h => ?_) fun n1 => ifkS .record rfl (fun h => ?_) fun n2 => ifkS .act rfl (fun h => ?_) fun n3 => ?_)
    · cases R1 with
      | @lst a us ds h1 r1 =>
        cases R2 with
        | @lst b ws es h2 r2 =>
          rw [Dat.dep] at dp
          exact ⟨_, rfl, _, rfl, a, b, us, ws, ds, es, rfl, h1, h2, r1, r2, wd.2, wd.1, by omega, q⟩
        | _ => cases he
      | _ => cases h
    · cases R1 with
      | @rcd a kvs ks ds h1 k1 r1 =>
        cases R2 with
        | @rcd b lvs ls es h2 k2 r2 =>
          rw [Dat.dep] at dp
          exact ⟨_, rfl, _, rfl, a, b, kvs, lvs, ks, ls, ds, es, rfl, h1, h2, k1, k2, r1, r2, wd, by omega, q⟩
        | _ => cases he
      | _ => cases h
    · cases R1 with
      | @act a a2 o nm us ds h1 h2 r1 =>
        cases R2 with
        | @act b b2 p mm ws es g1 g2 r2 =>
          rw [Dat.dep] at dp
          have q : Q (.bl ((o == p) && (decide (nm = mm) && sameL ds es))) H := q
          refine ⟨_, rfl, _, _, 1, _, rfl, rfl, .inl (.inl h1), rfl, _, rfl, _, _, 1, _, rfl, rfl, .inl (.inl g1), rfl, rfl, _, rfl, ?_⟩
          by_cases ho : o = p
          · subst ho
            rw [decide_eq_true rfl]
            refine iteT ⟨_, rfl, _, _, 2, _, rfl, rfl, .inl (.inl h1), rfl, _, rfl, _, _, 2, _, rfl, rfl, .inl (.inl g1), rfl, rfl, _, rfl, ?_⟩
            have e1 : (o == o) = true := beq_self_eq_true o
            rw [e1, Bool.true_and] at q
            by_cases hn : nm = mm
            · subst hn
              rw [decide_eq_true rfl, Bool.true_and] at q
              rw [decide_eq_true rfl]
              exact iteT ⟨_, rfl, _, _, 3, _, rfl, rfl, .inl (.inl h1), rfl, _, rfl, _, _, 3, _, rfl, rfl, .inl (.inl g1), rfl, a2, b2, us, ws, ds, es, rfl, h2, g2, r1, r2, wd.2.2.2, wd.2.2.1, by omega, q⟩
            · rw [decide_eq_false hn, Bool.false_and] at q
              rw [decide_eq_false (fun z => hn (by cases z; rfl))]
              exact iteF q
          · have e1 : (o == p) = false := beq_false_of_ne ho
            rw [e1, Bool.false_and] at q
            rw [decide_eq_false (fun z => ho (by cases z; rfl))]
            exact iteF q
        | _ => cases he
      | _ => cases h
    · cases R1 with
      | non =>
        cases R2 with
        | non => exact ⟨_, rfl, _, rfl, rfl, q⟩
        | _ => cases he
      | bl i =>
        cases R2 with
        | bl j =>
          refine ⟨_, rfl, _, rfl, rfl, ?_⟩
          rw [dec_bl]
          exact q
        | _ => cases he
      | int i =>
        cases R2 with
        | int j =>
          refine ⟨_, rfl, _, rfl, rfl, ?_⟩
          rw [dec_int]
          exact q
        | _ => cases he
      | str i =>
        cases R2 with
        | str j =>
          refine ⟨_, rfl, _, rfl, rfl, ?_⟩
          have e2 : decide (V.str i = V.str j) = decide (i = j) := decide_eq_decide.mpr ⟨fun z => by cases z; rfl, fun z => by rw [z]⟩
          rw [e2]
          exact q
        | _ => cases he
      | lst => exact absurd rfl n1
      | rcd => exact absurd rfl n2
      | act => exact absurd rfl n3
  · rw [decide_eq_false he]
    refine iteT (show Q (.bl false) H from ?_)
    rw [← sameD_kd he]
    exact q
end
/-- same, to depth n -/
theorem cal_same_n {w : World} {K : PySem.W.Frag} {mg : Str → Option Value} {base : Heap} (D : DefA K mg "same" s_same) (D1 : DefA K mg "same_members" s_same_members) (D2 : DefA K mg "same_fields" s_same_fields) (z : Nm mg)
    (c : Cal PP w K mg base CX0 1 "kind_of_value" ["value"] spKind) : ∀ n : Nat, Cal PP w K mg base CX0 (2 * n) "same" ["first", "second"] (spSame n)
  | 0 => Cal.never D (fun f fd F => F.bindsN fun _ _ _ _ _ _ us hl => match us, hl with | [_, _], _ => rfl) fun vs H Q E ⟨v, w, d, e, _, _, _, _, h, _⟩ => absurd (dep_pos d) (by omega)
  | n + 1 => cal_same D z c (by omega) (cal_same_members D1 z (cal_same_n D D1 D2 z c n)) (cal_same_fields D2 z (cal_same_n D D1 D2 z c n))
end Vk
set_option maxHeartbeats 4000000
/-! depth, size, text_of, copied -/
namespace Vk
open PySem PySem.Spec PyProof.Rows L2
theorem depL_snoc (d : Dat) : ∀ ds : List Dat, depL (ds ++ [d]) = max (depL ds) d.dep
  | [] => by
    show max d.dep (depL []) = max (depL []) d.dep
    exact Nat.max_comm _ _
  | e :: ds => by
    show max e.dep (depL (ds ++ [d])) = max (max e.dep (depL ds)) d.dep
    rw [depL_snoc d ds, Nat.max_assoc]
theorem szL_snoc (d : Dat) : ∀ ds : List Dat, szL (ds ++ [d]) = szL ds + d.sz
  | [] => by
    show d.sz + 0 = 0 + d.sz
    omega
  | e :: ds => by
    show e.sz + szL (ds ++ [d]) = e.sz + szL ds + d.sz
    rw [szL_snoc d ds]
    omega
theorem in3 (k : Kd) : inV (.str k.s) [.str "list", .str "record", .str "act"] = decide (k = .list ∨ k = .record ∨ k = .act) := by cases k <;> decide +kernel
theorem dep_of (d : Dat) : d.dep = depL d.parts + 1 := by
  cases d with
  | lst => rw [Dat.dep, Dat.parts]
  | rcd => rw [Dat.dep, Dat.parts]
  | act => rw [Dat.dep, Dat.parts]
  | _ => rfl
def ofO : Option Str → V
  | some x => .str x
  | none => .non
def textD : Dat → Option Str
  | .non => some "" | .bl b => some (if b then "true" else "false") | .int i => some (toString i : String) | .str x => some x | _ => none
theorem small_log {i : Int} (h : -big30 ≤ i ∧ i ≤ big30) : i.natAbs.log2 < 1920 := by
  have hb : big30 = 1000000000000000000000000000000 := rfl
  rw [hb] at h
  by_cases z : i.natAbs = 0
  · rw [z]; decide
  · have h1 : i.natAbs < 2 ^ 100 := by
      have : (2 : Nat) ^ 100 = 1267650600228229401496703205376 := by decide
      omega
    exact Nat.lt_trans ((Nat.log2_lt z).mpr h1) (by decide)
def spDepth (n : Nat) : Sp := fun vs H Q _ => ∃ v d, vs = [v] ∧ Rep H v d ∧ d.WD ∧ d.dep ≤ n ∧ ∀ H', Same H H' → Q (.int d.dep) H'
def spSize (n : Nat) : Sp := fun vs H Q _ => ∃ v d, vs = [v] ∧ Rep H v d ∧ d.WD ∧ d.dep ≤ n ∧ ∀ H', Same H H' → Q (.int d.sz) H'
def spText : Sp := fun vs H Q _ => ∃ v d, vs = [v] ∧ Rep H v d ∧ d.WD ∧ Q (ofO (textD d)) H
def spCopied (n : Nat) : Sp := fun vs H Q _ => ∃ v d, vs = [v] ∧ Rep H v d ∧ d.WD ∧ d.dep ≤ n ∧ ∀ v' H', Same H H' → Fresh H H' v' d → Q v' H'
section
variable {w : World} {K : PySem.W.Frag} {mg : Str → Option Value} {base : Heap} {n k : Nat}
abbrev s_depth : Stmt := topS 9
theorem sc_depth : FnScope ["value", "greatest", "part"] ["value"] (defScope s_depth) := ⟨rfl, rfl, rfl, by decide +kernel, rfl, by decide +kernel, by decide +kernel⟩
theorem cal_depth (D : DefA K mg "depth" s_depth) (z : Nm mg) (c_kind_of_value : Cal PP w K mg base CX0 1 "kind_of_value" ["value"] spKind) (c_parts_of : Cal PP w K mg base CX0 2 "parts_of" ["value"] spParts) (hk : 2 ≤ k)
    (c_depth : Cal PP w K mg base CX0 k "depth" ["value"] (spDepth n)) : Cal PP w K mg base CX0 (k + 1) "depth" ["value"] (spDepth (n + 1)) := by
  have c_kind_of_value := c_kind_of_value.mono (show 1 ≤ k by omega)
  have c_parts_of := c_parts_of.mono hk
  refine cal_mk D sc_depth (fun _ _ _ _ _ _ us hl => match us, hl with | [_], _ => rfl) (fun vs H Q E h => ?_) (fun f cdv A outer s H vs Q E hr h => ?_)
  · obtain ⟨v, d, rfl, _⟩ := h
    rfl
  obtain ⟨v, d, rfl, R, wd, dp, q⟩ := h
  refine ⟨_, (pss_cons (ps_set (i := 1) sc_depth.nd rfl (Or.inl rfl) pe_int)
    (pss_cons (ps_for (passes_of rfl) rfl (pi_list (pe_cal c_parts_of hr (by rfl) (pa_cons (pv 0) pa_nil))) (pg_name (i := 2) sc_depth.nd rfl (Or.inl rfl)) (pss_one (ps_set (i := 1) sc_depth.nd rfl (Or.inl rfl) (pe_callB (call_maxA rfl) (by rfl) z.max (by decide +kernel) (pa_cons (pv 1) (pa_cons (pe_cal c_depth hr (by rfl) (pa_cons (pv 2) pa_nil)) pa_nil))))))
    (pss_cons (ps_if (pt_cmpR op_in_seq (pe_cal c_kind_of_value hr (by rfl) (pa_cons (pv 0) pa_nil)) (pe_tup (pa_cons pe_str (pa_cons pe_str (pa_cons pe_str pa_nil)))) rfl) (pss_one (ps_ret (pe_op op_add (pv 1) pe_int))) pss_nil)
    (pss_one (ps_ret pe_int))))), ?_⟩
  refine ⟨_, rfl, v, d, rfl, R, wd, fun p ws H1 s1 hp Rp => ⟨p, rfl, ⟨ws, .inl (.inl hp)⟩, ?_⟩⟩
  have ln := Rp.length
  refine for_it walk_list (Pv := fun j σ H' => Same H1 H' ∧ ∃ x, σ = [some v, some (.int (depL (d.parts.take j))), x]) ⟨.refl _, _, rfl⟩ (fun _ _ _ _ pv => .inl (.inl (pv.1 _ _ hp))) (fun j x σ H2 H' hj pv y => ?_) fun σ H' pv => ?_
  · obtain ⟨s2, x0, rfl⟩ := pv
    obtain ⟨rfl, hy⟩ := y
    obtain ⟨e, e1, r1⟩ := Rp.get hy
    have m := List.mem_of_getElem? e1
    have dle := dep_part m
    have hj' : j < d.parts.length := (List.getElem?_eq_some_iff.mp e1).1
    refine ⟨_, rfl, _, rfl, x, e, rfl, r1.mono (rds_of s2), (WDL.parts wd).mem m, by omega, fun H3 s3 => .inl ⟨_, _, rfl, s2.trans s3, some x, ?_⟩⟩
    have e2 : (if (e.dep : Int) > (depL (d.parts.take j) : Nat) then (e.dep : Int) else (depL (d.parts.take j) : Nat)) = ((depL (d.parts.take (j + 1)) : Nat) : Int) := by
      rw [List.take_succ_eq_append_getElem hj', depL_snoc]
      have : d.parts[j] = e := by rw [List.getElem?_eq_getElem hj'] at e1; exact Option.some.inj e1
      rw [this]
      by_cases c : e.dep > depL (d.parts.take j)
      · rw [if_pos (by omega), Nat.max_eq_right (by omega)]
      · rw [if_neg (by omega), Nat.max_eq_left (by omega)]
    rw [e2]
    rfl
  · obtain ⟨s2, x0, rfl⟩ := pv
    rw [ln, List.take_length]
    refine ⟨v, rfl, v, d, rfl, R.mono (rds_of (s1.trans s2)), by decide, fun p2 hp2 => ⟨p2, _, rfl, .inr (.inl (.inl upd_same)), rfl, rfl, _, rfl, ?_⟩⟩
    rw [if_neg Bool.false_ne_true, in3]
    have sE := (s1.trans s2).trans (same_new hp2 (.tup [.str "list", .str "record", .str "act"]))
    refine ite2 (fun h => ?_) fun h => ?_
    · refine ⟨_, rfl, _, _, rfl, rfl, ?_⟩
      have e2 : ((depL d.parts : Nat) : Int) + 1 = (d.dep : Nat) := by rw [dep_of d]; rfl
      show Q (.int (((depL d.parts : Nat) : Int) + 1)) _
      rw [e2]
      exact q _ sE
    · have h := fun z => h (decide_eq_true z)
      have e2 : d.dep = 1 := by
        cases d <;> first | rfl | exact absurd (.inl rfl) h | exact absurd (.inr (.inl rfl)) h | exact absurd (.inr (.inr rfl)) h
      rw [e2] at q
      exact q _ sE
theorem cal_depth_n (D : DefA K mg "depth" s_depth) (z : Nm mg) (c : Cal PP w K mg base CX0 1 "kind_of_value" ["value"] spKind) (c2 : Cal PP w K mg base CX0 2 "parts_of" ["value"] spParts) : ∀ n : Nat, Cal PP w K mg base CX0 (n + 2) "depth" ["value"] (spDepth n)
  | 0 => (Cal.never D (fun f fd F => F.bindsN fun _ _ _ _ _ _ us hl => match us, hl with | [_], _ => rfl) fun vs H Q E ⟨v, d, _, _, _, h, _⟩ => absurd (dep_pos d) (by omega)).mono (Nat.zero_le _)
  | n + 1 => cal_depth D z c c2 (by omega) (cal_depth_n D z c c2 n)
abbrev s_text_of : Stmt := topS 11
theorem sc_text_of : FnScope ["value", "kind"] ["value"] (defScope s_text_of) := ⟨rfl, rfl, rfl, by decide +kernel, rfl, by decide +kernel, by decide +kernel⟩
theorem cal_text_of (D : DefA K mg "text_of" s_text_of) (z : Nm mg) (c_kind_of_value : Cal PP w K mg base CX0 1 "kind_of_value" ["value"] spKind) : Cal PP w K mg base CX0 2 "text_of" ["value"] spText := by
  refine cal_mk D sc_text_of (fun _ _ _ _ _ _ us hl => match us, hl with | [_], _ => rfl) (fun vs H Q E h => ?_) (fun f cdv A outer s H vs Q E hr h => ?_)
  · obtain ⟨v, d, rfl, _⟩ := h
    rfl
  obtain ⟨v, d, rfl, R, wd, q⟩ := h
  refine ⟨_, (pss_cons (ps_set (i := 1) sc_text_of.nd rfl (Or.inl rfl) (pe_cal c_kind_of_value hr (by rfl) (pa_cons (pv 0) pa_nil)))
    (pss_cons (ps_if (pt_cmpR op_eq (pv 1) pe_str (nomark _)) (pss_one (ps_ret pe_str)) pss_nil)
    (pss_cons (ps_if (pt_cmpR op_eq (pv 1) pe_str (nomark _)) (pss_one (ps_ret (pe_ifExp (pt_val (pv 0)) pe_str pe_str))) pss_nil)
    (pss_cons (ps_if (pt_cmpR op_eq (pv 1) pe_str (nomark _)) (pss_one (ps_ret (pe_callTy call_strA (by rfl) z.str (by decide +kernel) (pa_cons (pv 0) pa_nil)))) pss_nil)
    (pss_cons (ps_if (pt_cmpR op_eq (pv 1) pe_str (nomark _)) (pss_one (ps_ret (pv 0))) pss_nil)
    (pss_one (ps_ret pe_non))))))), ?_⟩
  refine kset rfl R (ifkS .null rfl (fun e => ?_) fun n1 => ifkS .boolean rfl (fun e => ?_) fun n2 => ifkS .number rfl (fun e => ?_) fun n3 => ifkS .text rfl (fun e => ?_) fun n4 => ?_)
  · cases R with
    | non => exact q
    | _ => cases e
  · cases R with
    | bl b =>
      refine ⟨_, rfl, b, rfl, ?_⟩
      cases b with
      | true => exact iteT q
      | false => exact iteF q
    | _ => cases e
  · cases R with
    | int i => exact ⟨_, rfl, .inl ⟨i, rfl, small_log wd, q⟩⟩
    | _ => cases e
  · cases R with
    | str i => exact ⟨_, rfl, q⟩
    | _ => cases e
  · cases R with
    | non => exact absurd rfl n1
    | bl => exact absurd rfl n2
    | int => exact absurd rfl n3
    | str => exact absurd rfl n4
    | _ => exact q
theorem lens_int : ∀ ks : List Str, (ks.map fun k => ((k.length : Nat) : Int)).sum = ((lens ks : Nat) : Int)
  | [] => rfl
  | k :: ks => by
    have ih := lens_int ks
    unfold lens at ih ⊢
    rw [List.map_cons, List.sum_cons, List.map_cons, List.sum_cons, ih]
    omega
def ownSz : Dat → Nat
  | .str x => x.length | .act _ n _ => n.length | .rcd ks _ => lens ks | _ => 0
theorem sz_of (d : Dat) : d.sz = 1 + szL d.parts + ownSz d := by
  cases d with
  | lst => rw [Dat.sz]; rfl
  | rcd ks ds =>
    rw [Dat.sz, Dat.parts]
    show 1 + lens ks + szL ds = 1 + szL ds + lens ks
    omega
  | act o n ds =>
    rw [Dat.sz, Dat.parts]
    show 1 + n.length + szL ds = 1 + szL ds + n.length
    omega
  | _ => rfl
abbrev s_size : Stmt := topS 10
theorem sc_size : FnScope ["value", "total", "part", "kind", "name"] ["value"] (defScope s_size) := ⟨rfl, rfl, rfl, by decide +kernel, rfl, by decide +kernel, by decide +kernel⟩
theorem cal_size (D : DefA K mg "size" s_size) (z : Nm mg) (c_kind_of_value : Cal PP w K mg base CX0 1 "kind_of_value" ["value"] spKind) (c_parts_of : Cal PP w K mg base CX0 2 "parts_of" ["value"] spParts) (hk : 2 ≤ k)
    (c_size : Cal PP w K mg base CX0 k "size" ["value"] (spSize n)) : Cal PP w K mg base CX0 (k + 1) "size" ["value"] (spSize (n + 1)) := by
  have c_kind_of_value := c_kind_of_value.mono (show 1 ≤ k by omega)
  have c_parts_of := c_parts_of.mono hk
  refine cal_mk D sc_size (fun _ _ _ _ _ _ us hl => match us, hl with | [_], _ => rfl) (fun vs H Q E h => ?_) (fun f cdv A outer s H vs Q E hr h => ?_)
  · obtain ⟨v, d, rfl, _⟩ := h
    rfl
  obtain ⟨v, d, rfl, R, wd, dp, q⟩ := h
  refine ⟨_, (pss_cons (ps_set (i := 1) sc_size.nd rfl (Or.inl rfl) pe_int)
    (pss_cons (ps_for (passes_of rfl) rfl (pi_list (pe_cal c_parts_of hr (by rfl) (pa_cons (pv 0) pa_nil))) (pg_name (i := 2) sc_size.nd rfl (Or.inl rfl)) (pss_one (ps_set (i := 1) sc_size.nd rfl (Or.inl rfl) (pe_op op_add (pv 1) (pe_cal c_size hr (by rfl) (pa_cons (pv 2) pa_nil))))))
    (pss_cons (ps_set (i := 3) sc_size.nd rfl (Or.inl rfl) (pe_cal c_kind_of_value hr (by rfl) (pa_cons (pv 0) pa_nil)))
    (pss_cons (ps_if (pt_cmpR op_eq (pv 3) pe_str (nomark _)) (pss_one (ps_ret (pe_op op_add (pv 1) (pe_callB (call_lenK (K := K) rfl) (by rfl) z.len (by decide +kernel) (pa_cons (pv 0) pa_nil))))) pss_nil)
    (pss_cons (ps_if (pt_cmpR op_eq (pv 3) pe_str (nomark _)) (pss_one (ps_ret (pe_op op_add (pv 1) (pe_callB (call_lenK (K := K) rfl) (by rfl) z.len (by decide +kernel) (pa_cons (pe_ix ix_tup (pv 0) pe_int (fun _ _ => rfl)) pa_nil))))) pss_nil)
    (pss_cons (ps_if (pt_cmpR op_eq (pv 3) pe_str (nomark _)) (pss_one (ps_ret (pe_op op_add (pv 1) (pe_callB (cr_sum rfl) (by rfl) z.sum (by decide +kernel) (pa_cons (pe_lockR (pe_lc (own := [("name", 4)]) (g := gName 4) (tt := tYes) rfl sc_size.nd (pi_keys (pv 0)) (blkOk_by (N := ["value", "total", "part", "kind", "name"]) (sc := defScope s_size) (by decide +kernel)) (fun _ _ _ _ _ => pg_name (i := 4) sc_size.nd rfl (Or.inl rfl)) (fun _ _ _ _ _ => pts_nil) (fun _ _ _ _ _ => (pe_callB (call_lenK (K := K) rfl) (by rfl) z.len (by decide +kernel) (pa_cons (pv 4) pa_nil))))) pa_nil))))) pss_nil)
    (pss_one (ps_ret (pv 1))))))))), ?_⟩
  refine ⟨_, rfl, v, d, rfl, R, wd, fun p ws H1 s1 hp Rp => ⟨p, rfl, ⟨ws, .inl (.inl hp)⟩, ?_⟩⟩
  have ln := Rp.length
  refine for_it walk_list (Pv := fun j σ H' => Same H1 H' ∧ ∃ x, σ = [some v, some (.int ((1 + szL (d.parts.take j) : Nat) : Int)), x, none, none]) ⟨.refl _, _, rfl⟩ (fun _ _ _ _ pv => .inl (.inl (pv.1 _ _ hp))) (fun j x σ H2 H' hj pv y => ?_) fun σ H' pv => ?_
  · obtain ⟨s2, x0, rfl⟩ := pv
    obtain ⟨rfl, hy⟩ := y
    obtain ⟨e, e1, r1⟩ := Rp.get hy
    have m := List.mem_of_getElem? e1
    have dle := dep_part m
    have hj' : j < d.parts.length := (List.getElem?_eq_some_iff.mp e1).1
    refine ⟨_, rfl, _, rfl, x, e, rfl, r1.mono (rds_of s2), (WDL.parts wd).mem m, by omega, fun H3 s3 => ⟨_, _, rfl, rfl, s2.trans s3, some x, ?_⟩⟩
    have e2 : ((1 + szL (d.parts.take j) : Nat) : Int) + (e.sz : Nat) = ((1 + szL (d.parts.take (j + 1)) : Nat) : Int) := by
      rw [List.take_succ_eq_append_getElem hj', szL_snoc]
      have : d.parts[j] = e := by rw [List.getElem?_eq_getElem hj'] at e1; exact Option.some.inj e1
      rw [this]
      omega
    show [some v, some (V.int (((1 + szL (d.parts.take j) : Nat) : Int) + (e.sz : Nat))), some x, none, none] = _
    rw [e2]
  · obtain ⟨s2, x0, rfl⟩ := pv
    rw [ln, List.take_length]
    have sE := s1.trans s2
    have R' := R.mono (rds_of sE)
    have e0 := sz_of d
    have fin : ∀ (m : Nat) H2, Same H H2 → d.sz = 1 + szL d.parts + m → Q (.int (((1 + szL d.parts : Nat) : Int) + (m : Nat))) H2 := fun m H2 s h => by
      have e3 : ((1 + szL d.parts : Nat) : Int) + (m : Nat) = (d.sz : Nat) := by omega
      rw [e3]
      exact q _ s
    refine kset rfl R' (ifkS .text rfl (fun e => ?_) fun n1 => ifkS .act rfl (fun e => ?_) fun n2 => ifkS .record rfl (fun e => ?_) fun n3 => ?_)
    · cases R' with
      | str x => exact ⟨_, rfl, _, rfl, .inl ⟨_, x.length, rfl, ⟨Nat.le_trans wd (by decide), rfl⟩, _, _, rfl, rfl, fin x.length _ sE e0⟩⟩
      | _ => cases e
    · cases R' with
      | @act a b o nm us ds h h2 r => exact ⟨_, rfl, _, rfl, _, _, 2, _, rfl, rfl, .inl (.inl h), rfl, .inl ⟨_, nm.length, rfl, ⟨Nat.le_trans wd.2.1 (by decide), rfl⟩, _, _, rfl, rfl, fin nm.length _ sE e0⟩⟩
      | _ => cases e
    · cases R' with
      | @rcd a kvs ks ds h hk1 r =>
        refine ⟨_, rfl, lockER_on h fun o H3 un Q1 u hq => ⟨_, rfl, _, _, rfl, .inl ⟨kvs, u.at1, ?_⟩⟩⟩
        have l1 := keys_len hk1
        have l2 := wd.2.2.1
        refine lc_pure walk_keys (ks.map fun k => V.int (k.length : Nat)) ((List.length_map _).trans l1.symm) (small1000 (by omega)) (fun H2 s => s _ _ u.at1) (fun j x H2 H' y Qk hj s3 hy e => ⟨hy.1, fun qk => ?_⟩) fun D hD => ?_
        · obtain ⟨kk, v, hv, rfl⟩ := hy.2
          obtain ⟨kx, rfl, hkx⟩ := key_at hk1 hv
          rw [List.getElem?_map, hkx] at e
          cases e
          exact ⟨_, rfl, .inl ⟨_, kx.length, rfl, ⟨Nat.le_trans (wd.2.2.2.1 kx (List.mem_of_getElem? hkx)).1 (by decide), rfl⟩, qk⟩⟩
        · refine hq _ _ ?_ ⟨D, ks.map fun k => ((k.length : Nat) : Int), rfl, .inl (.inl ?_), _, _, rfl, rfl, ?_⟩
          · rw [upd_ne (ne_of_none u.at1 hD)]
            exact u.at1
          · refine ((u.back (upd H3 D _) ?_).2 D (fun e => (ne_of_none u.at1 hD) e.symm)).trans ?_
            · rw [upd_ne (ne_of_none u.at1 hD)]
              exact u.at1
            · rw [upd_same, List.map_map]
              rfl
          · rw [lens_int]
            exact fin (lens ks) _ (sE.trans (u.un (same_new hD _))) e0
      | _ => cases e
    · refine ⟨_, rfl, ?_⟩
      have e1 : d.sz = 1 + szL d.parts := by
        cases R' with
        | str => exact absurd rfl n1
        | act => exact absurd rfl n2
        | rcd => exact absurd rfl n3
        | _ => exact e0
      rw [← e1]
      exact q _ sE
theorem cal_size_n (D : DefA K mg "size" s_size) (z : Nm mg) (c : Cal PP w K mg base CX0 1 "kind_of_value" ["value"] spKind) (c2 : Cal PP w K mg base CX0 2 "parts_of" ["value"] spParts) : ∀ n : Nat, Cal PP w K mg base CX0 (n + 2) "size" ["value"] (spSize n)
  | 0 => (Cal.never D (fun f fd F => F.bindsN fun _ _ _ _ _ _ us hl => match us, hl with | [_], _ => rfl) fun vs H Q E ⟨v, d, _, _, _, h, _⟩ => absurd (dep_pos d) (by omega)).mono (Nat.zero_le _)
  | n + 1 => cal_size D z c c2 (by omega) (cal_size_n D z c c2 n)
abbrev s_copied : Stmt := topS 12
theorem sc_copied : FnScope ["value", "kind", "part", "name"] ["value"] (defScope s_copied) := ⟨rfl, rfl, rfl, by decide +kernel, rfl, by decide +kernel, by decide +kernel⟩
theorem cal_copied (D : DefA K mg "copied" s_copied) (z : Nm mg) (c_kind_of_value : Cal PP w K mg base CX0 1 "kind_of_value" ["value"] spKind) (hk : 1 ≤ k)
    (c_copied : Cal PP w K mg base CX0 k "copied" ["value"] (spCopied n)) : Cal PP w K mg base CX0 (k + 1) "copied" ["value"] (spCopied (n + 1)) := by
  have c_kind_of_value := c_kind_of_value.mono hk
  refine cal_mk D sc_copied (fun _ _ _ _ _ _ us hl => match us, hl with | [_], _ => rfl) (fun vs H Q E h => ?_) (fun f cdv A outer s H vs Q E hr h => ?_)
  · obtain ⟨v, d, rfl, _⟩ := h
    rfl
  obtain ⟨v, d, rfl, R, wd, dp, q⟩ := h
  have hu := hu_of hr
  refine ⟨_, (pss_cons (ps_set (i := 1) sc_copied.nd rfl (Or.inl rfl) (pe_cal c_kind_of_value hr (by rfl) (pa_cons (pv 0) pa_nil)))
    (pss_cons (ps_if (pt_cmpR op_eq (pv 1) pe_str (nomark _)) (pss_one (ps_ret (pe_lc (own := [("part", 2)]) (g := gName 2) (tt := tYes) rfl sc_copied.nd (pi_list (pv 0)) (blkOk_by (N := ["value", "kind", "part", "name"]) (sc := defScope s_copied) (by decide +kernel)) (fun _ _ _ _ _ => pg_name (i := 2) sc_copied.nd rfl (Or.inl rfl)) (fun _ _ _ _ _ => pts_nil) (fun _ _ _ _ _ => (pe_cal c_copied hr (by rfl) (pa_cons (pv 2) pa_nil)))))) pss_nil)
    (pss_cons (ps_if (pt_cmpR op_eq (pv 1) pe_str (nomark _)) (pss_one (ps_ret (pe_lockR (pe_dc (own := [("name", 3)]) (g := gName 3) (tt := tYes) rfl sc_copied.nd (pi_keys (pv 0)) (blkOk_by (N := ["value", "kind", "part", "name"]) (sc := defScope s_copied) (by decide +kernel)) (fun _ _ _ _ _ => pg_name (i := 3) sc_copied.nd rfl (Or.inl rfl)) (fun _ _ _ _ _ => pts_nil) (fun _ _ _ _ _ => (pv 3)) (fun _ _ _ _ _ => (pe_cal c_copied hr (by rfl) (pa_cons (pe_dget hu (pv 0) (pv 3) (fun _ _ => rfl)) pa_nil))))))) pss_nil)
    (pss_cons (ps_if (pt_cmpR op_eq (pv 1) pe_str (nomark _)) (pss_one (ps_ret (pe_tup (pa_cons pe_str (pa_cons (pe_ix ix_tup (pv 0) pe_int (fun _ _ => rfl)) (pa_cons (pe_ix ix_tup (pv 0) pe_int (fun _ _ => rfl)) (pa_cons (pe_lc (own := [("part", 2)]) (g := gName 2) (tt := tYes) rfl sc_copied.nd (pi_list (pe_ix ix_tup (pv 0) pe_int (fun _ _ => rfl))) (blkOk_by (N := ["value", "kind", "part", "name"]) (sc := defScope s_copied) (by decide +kernel)) (fun _ _ _ _ _ => pg_name (i := 2) sc_copied.nd rfl (Or.inl rfl)) (fun _ _ _ _ _ => pts_nil) (fun _ _ _ _ _ => (pe_cal c_copied hr (by rfl) (pa_cons (pv 2) pa_nil)))) pa_nil))))))) pss_nil)
    (pss_one (ps_ret (pv 0))))))), ?_⟩
  refine kset rfl R (ifkS .list rfl (fun e => ?_) fun n1 => ifkS .record rfl (fun e => ?_) fun n2 => ifkS .act rfl (fun e => ?_) fun n3 => ?_)
  · cases R with
    | @lst a vs ds h r =>
      rw [Dat.dep] at dp
      refine ⟨_, rfl, a, rfl, ⟨vs, .inl (.inl h)⟩, ?_⟩
      refine lc_fresh walk_list ds r.length.symm (by rw [r.length]; exact Nat.lt_of_le_of_lt wd.1 (by decide)) (fun H2 s => .inl (.inl (s _ _ h))) (fun j x H2 H' d Qk hj s2 hy e => ⟨hy.1, fun qk => ?_⟩) fun D H' hD s f => q _ _ s f
      obtain ⟨d', e1, r1⟩ := r.get hy.2
      rw [e] at e1
      cases e1
      exact ⟨_, rfl, x, d, rfl, r1.mono (rds_of s2), wd.2.mem (List.mem_of_getElem? e), Nat.le_trans (dep_mem (List.mem_of_getElem? e)) (by omega), qk⟩
    | _ => cases e
  · cases R with
    | @rcd a kvs ks ds h hk1 r =>
      rw [Dat.dep] at dp
      have l1 := keys_len hk1
      have nd := keys_nodup hk1 wd.1
      refine lockER_on h fun o H1 un Q1 u hq => ⟨_, rfl, _, _, rfl, .inl ⟨kvs, u.at1, ?_⟩⟩
      have r' := r.mono u.rd
      refine dc_fresh walk_keys ks ds l1.symm (wd.2.1.symm.trans l1.symm) wd.1 (by have := wd.2.2.1; exact small1000 (by omega)) (fun H2 s => s _ _ u.at1) (fun j x H2 H' kx d Qk hj s2 hy e1 e2 => ⟨hy.1, fun qk => ?_⟩) fun D H' hD s f => ?_
      · obtain ⟨kk, v, hv, rfl⟩ := hy.2
        obtain ⟨kx', rfl, hkx⟩ := key_at hk1 hv
        rw [e1] at hkx
        cases hkx
        have hv2 : (kvs.map (·.2))[j]? = some v := by rw [List.getElem?_map, hv]; rfl
        obtain ⟨d', e3, r1⟩ := r'.get hv2
        rw [e2] at e3
        cases e3
        exact ⟨_, rfl, _, rfl, _, rfl, a, v, rfl, .inl ⟨kvs, .inr kx, .inr ⟨o, s2 _ _ u.at1⟩, rfl, (valV_at nd hv).symm⟩, v, d, rfl, r1.mono (rds_of s2), wd.2.2.2.2.mem (List.mem_of_getElem? e2), Nat.le_trans (dep_mem (List.mem_of_getElem? e2)) (by omega), qk⟩
      · refine hq _ _ (s _ _ u.at1) (q _ _ (u.un s) ?_)
        obtain ⟨F, o1, nd1, z1⟩ := f
        have na : ∀ b ∈ F, b ≠ a := fun b hb e => by
          have := z1 b hb
          rw [e, u.at1] at this
          cases this
        exact ⟨F, o1.at fun b hb => (u.back H' (s _ _ u.at1)).2 b (na b hb), nd1, fun b hb => (u.off1 b (na b hb)).symm.trans (z1 b hb)⟩
    | _ => cases e
  · cases R with
    | @act a b o nm vs ds h h2 r =>
      rw [Dat.dep] at dp
      refine ⟨_, rfl, _, _, 1, _, rfl, rfl, .inl (.inl h), rfl, _, rfl, _, _, 2, _, rfl, rfl, .inl (.inl h), rfl, _, rfl, _, _, 3, _, rfl, rfl, .inl (.inl h), rfl, b, rfl, ⟨vs, .inl (.inl h2)⟩, ?_⟩
      refine lc_fresh (Q := fun v H2 => 4 ≤ sizeLine ∧ ∀ p, H2 p = none → Q (.ref p) (upd H2 p (.tup [.str "act", .int o, .str nm, v]))) walk_list ds r.length.symm (by rw [r.length]; exact Nat.lt_of_le_of_lt wd.2.2.1 (by decide)) (fun H2 s => .inl (.inl (s _ _ h2))) (fun j x H2 H' d Qk hj s2 hy e => ⟨hy.1, fun qk => ?_⟩) fun D H' hD s f => ⟨by decide, fun p hp => q _ _ (s.trans (same_new hp _)) (f.act s hp)⟩
      obtain ⟨d', e1, r1⟩ := r.get hy.2
      rw [e] at e1
      cases e1
      exact ⟨_, rfl, x, d, rfl, r1.mono (rds_of s2), wd.2.2.2.mem (List.mem_of_getElem? e), Nat.le_trans (dep_mem (List.mem_of_getElem? e)) (by omega), qk⟩
    | _ => cases e
  · refine ⟨_, rfl, q _ _ (.refl _) ?_⟩
    cases R with
    | lst => exact absurd rfl n1
    | rcd => exact absurd rfl n2
    | act => exact absurd rfl n3
    | non => exact ⟨[], .non, List.nodup_nil, fun _ h => by cases h⟩
    | bl b => exact ⟨[], .bl b, List.nodup_nil, fun _ h => by cases h⟩
    | int b => exact ⟨[], .int b, List.nodup_nil, fun _ h => by cases h⟩
    | str b => exact ⟨[], .str b, List.nodup_nil, fun _ h => by cases h⟩
theorem cal_copied_n (D : DefA K mg "copied" s_copied) (z : Nm mg) (c : Cal PP w K mg base CX0 1 "kind_of_value" ["value"] spKind) : ∀ n : Nat, Cal PP w K mg base CX0 (n + 1) "copied" ["value"] (spCopied n)
  | 0 => (Cal.never D (fun f fd F => F.bindsN fun _ _ _ _ _ _ us hl => match us, hl with | [_], _ => rfl) fun vs H Q E ⟨v, d, _, _, _, h, _⟩ => absurd (dep_pos d) (by omega)).mono (Nat.zero_le _)
  | n + 1 => cal_copied D z c (by omega) (cal_copied_n D z c n)
end
end Vk
set_option maxHeartbeats 4000000
/-! expressions, what they are worth -/
namespace Vk
open PySem PySem.Spec PyProof.Rows L2
inductive Sg where
  | add | sub | mul | div | eq | ne | lt | le | gt | ge | and | or
  deriving DecidableEq
def Sg.s : Sg → Str
  | .add => "+" | .sub => "-" | .mul => "*" | .div => "/" | .eq => "==" | .ne => "!=" | .lt => "<" | .le => "<=" | .gt => ">" | .ge => ">=" | .and => "&&" | .or => "||"
inductive Fn where
  | length | text | get | keys | min | max
  deriving DecidableEq
def Fn.s : Fn → Str
  | .length => "length" | .text => "text" | .get => "get" | .keys => "keys" | .min => "min" | .max => "max"
/-- how many arguments -/
def Fn.ar : Fn → Nat
  | .length => 1 | .text => 1 | .get => 3 | .keys => 1 | .min => 2 | .max => 2
mutual
inductive Ex where
  | null | bl (b : Bool) | num (i : Int) | txt (x : Str) | name (x : Str) | bin (s : Sg) (a b : Ex) | choice (c a b : Ex)
  | gather (g : Ex) (y : Str) (row : Ex) | gatherIf (g : Ex) (y : Str) (row c : Ex) | fn (f : Fn) (xs : Exs) | lst (xs : Exs) | rcd (ns : List Str) (xs : Exs) | act (n : Str) (xs : Exs)
  | neg (a : Ex) | not (a : Ex) | field (a : Ex) (x : Str) | item (a b : Ex)
inductive Exs where
  | nil | cons (x : Ex) (r : Exs)
end
abbrev Rs := Except Str Dat
def boundN (i : Int) : Rs := if big30 < i ∨ i < -big30 then .error "number too large" else .ok (.int i)
def boundT (x : Str) : Rs := if x.length > 2000 then .error "too large" else .ok (.str x)
def many : Dat → Bool
  | .lst ds => decide (200 < ds.length)
  | _ => false
def made (d : Dat) : Rs := if many d = true then .error "too large" else if d.dep > 20 then .error "nested too deep" else if d.sz > 2000 then .error "too large" else .ok d
def addD : Dat → Dat → Rs
  | .int i, .int j => boundN (i + j)
  | .lst x, .lst y => made (.lst (x ++ y))
  | a, b => if a.kd = .text ∨ b.kd = .text then (match textD a, textD b with | some x, some y => boundT (x ++ y) | _, _ => .error "not a text") else .error "not to be added"
def quot (i j : Int) : Int := if decide (i < 0) != decide (j < 0) then -((i.natAbs : Int) / (j.natAbs : Int)) else (i.natAbs : Int) / (j.natAbs : Int)
def calcD (s : Sg) : Dat → Dat → Rs
  | .int i, .int j => match s with
    | .sub => boundN (i - j)
    | .mul => boundN (i * j)
    | _ => if j = 0 then .error "division by 0" else boundN (quot i j)
  | _, _ => .error "not a number"
def cmpD (s : Sg) : Dat → Dat → Rs
  | .int i, .int j => .ok (.bl (match s with | .lt => decide (i < j) | .le => decide (i ≤ j) | .gt => decide (j < i) | _ => decide (j ≤ i)))
  | .str x, .str y => .ok (.bl (match s with | .lt => decide (x.cps.toList < y.cps.toList) | .le => !decide (y.cps.toList < x.cps.toList) | .gt => decide (y.cps.toList < x.cps.toList) | _ => !decide (x.cps.toList < y.cps.toList)))
  | _, _ => .error "not to be compared"
def oper (s : Sg) (a b : Dat) : Rs := match s with
  | .add => addD a b
  | .sub => calcD .sub a b
  | .mul => calcD .mul a b
  | .div => calcD .div a b
  | .eq => .ok (.bl (sameD a b))
  | .ne => .ok (.bl (!sameD a b))
  | s => cmpD s a b
def fieldD (x : Str) : Dat → Rs
  | .rcd ks ds => match lookK ks ds x with
    | some d => .ok d
    | none => .error (("no field " : Str) ++ x)
  | _ => .error "not a record"
def placed : Dat → Dat → Bool
  | .rcd _ _, .str _ => true
  | .lst _, .int _ => true
  | .str _, .int _ => true
  | _, _ => false
def getAt : Dat → Dat → Option Dat
  | .rcd ks ds, .str x => lookK ks ds x
  | .lst ds, .int i => if 0 ≤ i then ds[i.toNat]? else none
  | .str x, .int i => if 0 ≤ i then (x.cps.toList[i.toNat]?).map (fun c => Dat.str ⟨#[c]⟩) else none
  | _, _ => none
def atD (d p : Dat) : Rs := if placed d p = true then (match getAt d p with | some e => .ok e | none => .error "nothing there") else .error "not a place"
def getD' (d p o : Dat) : Rs := if d.kd = .null then .ok o else if placed d p = true then (match getAt d p with | some e => .ok e | none => .ok o) else .error "not a place"
def lengthD : Dat → Rs
  | .str x => .ok (.int (x.length : Nat))
  | .lst ds => .ok (.int (ds.length : Nat))
  | .rcd ks _ => .ok (.int (ks.length : Nat))
  | _ => .error "not a list, text or record"
open Classical in
/-- the keys in order -/
noncomputable def srt (ks : List Str) : List Str := if h : ∃ ys : List Str, ys.Perm ks ∧ sortedS ys = true then h.choose else []
noncomputable def keysD : Dat → Rs
  | .rcd ks _ => made (.lst ((srt ks).map Dat.str))
  | _ => .error "not a record"
def minD (mx : Bool) : Dat → Dat → Rs
  | .int i, .int j => .ok (.int (if mx then (if j > i then j else i) else (if j < i then j else i)))
  | _, _ => .error "not a number"
noncomputable def fnD : Fn → List Dat → Rs
  | .length, [a] => lengthD a
  | .text, [a] => match textD a with | some x => .ok (.str x) | none => .error "not a text"
  | .get, [a, b, c] => getD' a b c
  | .keys, [a] => keysD a
  | .min, [a, b] => minD false a b
  | .max, [a, b] => minD true a b
  | _, _ => .error "not a text"
def putKs (ks : List Str) (y : Str) : List Str := if y ∈ ks then ks else ks ++ [y]
def putDs : List Str → List Dat → Str → Dat → List Dat
  | k :: ks, d :: ds, y, m => if k = y then m :: ds else d :: putDs ks ds y m
  | _, _, _, m => [m]
/-- for each: an error, a value, or none -/
def goAll {α : Type} (f : α → Except Str (Option Dat)) : List α → Except Str (List Dat)
  | [] => .ok []
  | m :: ms => match f m with
    | .error e => .error e
    | .ok o => match goAll f ms with
      | .error e => .error e
      | .ok r => .ok (match o with | some d => d :: r | none => r)
def onOk {α : Type} (r : Rs) (f : Dat → Except Str α) : Except Str α := match r with
  | .error m => .error m
  | .ok d => f d
def asBl {α : Type} (d : Dat) (f : Bool → Except Str α) : Except Str α := match d with
  | .bl b => f b
  | _ => .error "not true or false"
def asLst {α : Type} (d : Dat) (f : List Dat → Except Str α) : Except Str α := match d with
  | .lst ds => f ds
  | _ => .error "not a list"
def onOks (r : Except Str (List Dat)) (f : List Dat → Rs) : Rs := match r with
  | .error m => .error m
  | .ok d => f d
def logic : Sg → Bool
  | .and => true | .or => true | _ => false
mutual
noncomputable def ev (o : Int) : Ex → List Str → List Dat → Rs
  | .null, _, _ => .ok .non
  | .bl b, _, _ => .ok (.bl b)
  | .num i, _, _ => .ok (.int i)
  | .txt x, _, _ => .ok (.str x)
  | .name x, ks, ds => match lookK ks ds x with | some d => .ok d | none => .error ""
  | .bin s a b, ks, ds => onOk (ev o a ks ds) fun d1 =>
      if logic s = true then asBl d1 fun b1 => if b1 = decide (s = .or) then .ok (.bl b1) else onOk (ev o b ks ds) fun d2 => asBl d2 fun b2 => .ok (.bl b2)
      else onOk (ev o b ks ds) fun d2 => oper s d1 d2
  | .choice c a b, ks, ds => onOk (ev o c ks ds) fun d => asBl d fun t => if t = true then ev o a ks ds else ev o b ks ds
  | .gather g y row, ks, ds => onOk (ev o row ks ds) fun d => asLst d fun ms => onOks (goAll (fun m => onOk (ev o g (putKs ks y) (putDs ks ds y m)) fun d => .ok (some d)) ms) fun vs => made (.lst vs)
  | .gatherIf g y row c, ks, ds => onOk (ev o row ks ds) fun d => asLst d fun ms => onOks (goAll (fun m => onOk (ev o c (putKs ks y) (putDs ks ds y m)) fun d => asBl d fun t =>
      if t = true then onOk (ev o g (putKs ks y) (putDs ks ds y m)) fun d => .ok (some d) else .ok none) ms) fun vs => made (.lst vs)
  | .fn f xs, ks, ds => onOks (evs o xs ks ds) fun vs => fnD f vs
  | .lst xs, ks, ds => onOks (evs o xs ks ds) fun vs => made (.lst vs)
  | .rcd ns xs, ks, ds => onOks (evs o xs ks ds) fun vs => made (.rcd ns vs)
  | .act n xs, ks, ds => onOks (evs o xs ks ds) fun vs => made (.act o n vs)
  | .neg a, ks, ds => onOk (ev o a ks ds) fun d => match d with | .int i => boundN (-i) | _ => .error "not a number"
  | .not a, ks, ds => onOk (ev o a ks ds) fun d => asBl d fun b => .ok (.bl (!b))
  | .field a x, ks, ds => onOk (ev o a ks ds) fun d => fieldD x d
  | .item a b, ks, ds => onOk (ev o a ks ds) fun d => onOk (ev o b ks ds) fun p => atD d p
noncomputable def evs (o : Int) : Exs → List Str → List Dat → Except Str (List Dat)
  | .nil, _, _ => .ok []
  | .cons x r, ks, ds => match ev o x ks ds with
    | .error m => .error m
    | .ok d => match evs o r ks ds with
      | .error m => .error m
      | .ok vs => .ok (d :: vs)
end
end Vk
set_option maxHeartbeats 4000000
/-! bounded_number, bounded_text, bounded, need_.. -/
namespace Vk
open PySem PySem.Spec PyProof.Rows L2
/-- the value is given back, or a fault -/
def Back (C : Addr) (H : Hp) (Q : VK) (E : XK) (v : V) (r : Rs) : Prop := (∀ d, r = .ok d → ∀ H', Same H H' → Q v H') ∧ ∀ m, r = .error m → EF C H m E
def spBN (C : Addr) : Sp := fun vs H Q E => ∃ i, vs = [.int i] ∧ Back C H Q E (.int i) (boundN i)
def spBT (C : Addr) : Sp := fun vs H Q E => ∃ x, vs = [.str x] ∧ x.length ≤ 5000 ∧ Back C H Q E (.str x) (boundT x)
def spBd (C : Addr) : Sp := fun vs H Q E => ∃ v d, vs = [v] ∧ Rep H v d ∧ d.WD ∧ d.dep ≤ 22 ∧ Back C H Q E v (made d)
/-- of that kind, or a fault -/
def spNeed (C : Addr) (k : Kd) (m : Str) : Sp := fun vs H Q E => ∃ v d, vs = [v] ∧ Rep H v d ∧ (d.kd = k → Q v H) ∧ (d.kd ≠ k → EF C H m E)
section
variable {w : World} {K : PySem.W.Frag} {mg : Str → Option Value} {base : Heap} {n k : Nat} {C Vw fI cc cda : Addr}
abbrev s_bounded_number : Stmt := topS 19
theorem sc_bounded_number : FnScope ["number"] ["number"] (defScope s_bounded_number) := ⟨rfl, rfl, rfl, by decide +kernel, rfl, by decide +kernel, by decide +kernel⟩
theorem cal_bounded_number (D : DefA K mg "bounded_number" s_bounded_number) (z : Nm mg) (T : FltTxt K mg C Vw fI cc cda) (y : Cst mg) : Cal PP w K mg base (CX PP w) 2 "bounded_number" ["number"] (spBN C) := by
  obtain ⟨_, g_MOST_NUMBER⟩ := y.num
  refine cal_mk D sc_bounded_number (fun _ _ _ _ _ _ us hl => match us, hl with | [_], _ => rfl) (fun vs H Q E h => ?_) (fun f cdv A outer s H vs Q E hr h => ?_)
  · obtain ⟨i, rfl, _⟩ := h
    rfl
  obtain ⟨i, rfl, q1, q2⟩ := h
  refine ⟨_, (pss_cons (ps_if (pt_cmpR op_gt (pe_callB call_abs (by rfl) z.abs (by decide +kernel) (pa_cons (pv 0) pa_nil)) (pe_gi rfl g_MOST_NUMBER) (nomark _)) (pss_one (ps_raiseF rfl rfl T hr (takes_of rfl rfl rfl rfl) (pa_cons pe_str pa_nil))) pss_nil)
    (pss_one (ps_ret (pv 0)))), ?_⟩
  refine ⟨_, rfl, i, rfl, _, _, rfl, rfl, _, rfl, ?_⟩
  unfold boundN at q1 q2
  have hb : big30 = 1000000000000000000000000000000 := rfl
  refine ite2 (fun h => ?_) fun h => ?_
  · have h := of_decide_eq_true h
    rw [if_pos (by split at h <;> omega)] at q2
    exact ⟨_, rfl, fun d hd => (q2 _ rfl).now d hd⟩
  · have h : ¬ (big30 < if i < 0 then -i else i) := fun z => h (decide_eq_true z)
    rw [if_neg (by split at h <;> omega)] at q1
    exact ⟨_, rfl, q1 _ rfl _ (.refl _)⟩
abbrev s_bounded_text : Stmt := topS 20
theorem sc_bounded_text : FnScope ["text"] ["text"] (defScope s_bounded_text) := ⟨rfl, rfl, rfl, by decide +kernel, rfl, by decide +kernel, by decide +kernel⟩
theorem cal_bounded_text (D : DefA K mg "bounded_text" s_bounded_text) (z : Nm mg) (T : FltTxt K mg C Vw fI cc cda) (y : Cst mg) : Cal PP w K mg base (CX PP w) 2 "bounded_text" ["text"] (spBT C) := by
  obtain ⟨_, g_MOST_CHARACTERS⟩ := y.chars
  refine cal_mk D sc_bounded_text (fun _ _ _ _ _ _ us hl => match us, hl with | [_], _ => rfl) (fun vs H Q E h => ?_) (fun f cdv A outer s H vs Q E hr h => ?_)
  · obtain ⟨i, rfl, _⟩ := h
    rfl
  obtain ⟨x, rfl, ln, q1, q2⟩ := h
  refine ⟨_, (pss_cons (ps_if (pt_cmpR op_gt (pe_callB (call_lenK (K := K) rfl) (by rfl) z.len (by decide +kernel) (pa_cons (pv 0) pa_nil)) (pe_gi rfl g_MOST_CHARACTERS) (nomark _)) (pss_one (ps_raiseF rfl rfl T hr (takes_of rfl rfl rfl rfl) (pa_cons pe_str pa_nil))) pss_nil)
    (pss_one (ps_ret (pv 0)))), ?_⟩
  refine ⟨_, rfl, .inl ⟨_, x.length, rfl, ⟨Nat.le_trans ln (by decide), rfl⟩, _, _, rfl, rfl, _, rfl, ?_⟩⟩
  unfold boundT at q1 q2
  refine ite2 (fun h => ?_) fun h => ?_
  · have h := of_decide_eq_true h
    rw [if_pos (by omega)] at q2
    exact ⟨_, rfl, fun d hd => (q2 _ rfl).now d hd⟩
  · have h : ¬ ((2000 : Int) < (x.length : Nat)) := fun z => h (decide_eq_true z)
    rw [if_neg (by omega)] at q1
    exact ⟨_, rfl, q1 _ rfl _ (.refl _)⟩
abbrev s_bounded : Stmt := topS 21
theorem sc_bounded : FnScope ["value"] ["value"] (defScope s_bounded) := ⟨rfl, rfl, rfl, by decide +kernel, rfl, by decide +kernel, by decide +kernel⟩
theorem cal_bounded (D : DefA K mg "bounded" s_bounded) (z : Nm mg) (T : FltTxt K mg C Vw fI cc cda) (y : Cst mg) (c_kind_of_value : Cal PP w K mg base CX0 1 "kind_of_value" ["value"] spKind)
    (c_depth : Cal PP w K mg base CX0 24 "depth" ["value"] (spDepth 22)) (c_size : Cal PP w K mg base CX0 24 "size" ["value"] (spSize 22)) : Cal PP w K mg base (CX PP w) 25 "bounded" ["value"] (spBd C) := by
  obtain ⟨_, g_MOST_MEMBERS⟩ := y.members
  obtain ⟨_, g_MOST_DEPTH⟩ := y.depth
  obtain ⟨_, g_MOST_SIZE⟩ := y.size
  have c_kind_of_value := c_kind_of_value.mono (show 1 ≤ 24 by decide)
  refine cal_mk D sc_bounded (fun _ _ _ _ _ _ us hl => match us, hl with | [_], _ => rfl) (fun vs H Q E h => ?_) (fun f cdv A outer s H vs Q E hr h => ?_)
  · obtain ⟨i, d, rfl, _⟩ := h
    rfl
  obtain ⟨v, d, rfl, R, wd, dp, q1, q2⟩ := h
  refine ⟨_, (pss_cons (ps_if (PW.pt (pw_and (pt_cmpR op_eq (pe_cal c_kind_of_value hr (by rfl) (pa_cons (pv 0) pa_nil)) pe_str (nomark _)) (pw_and1 (pt_cmpR op_gt (pe_callB (call_lenK (K := K) rfl) (by rfl) z.len (by decide +kernel) (pa_cons (pv 0) pa_nil)) (pe_gi rfl g_MOST_MEMBERS) (nomark _))))) (pss_one (ps_raiseF rfl rfl T hr (takes_of rfl rfl rfl rfl) (pa_cons pe_str pa_nil))) pss_nil)
    (pss_cons (ps_if (pt_cmpR op_gt (pe_cal c_depth hr (by rfl) (pa_cons (pv 0) pa_nil)) (pe_gi rfl g_MOST_DEPTH) (nomark _)) (pss_one (ps_raiseF rfl rfl T hr (takes_of rfl rfl rfl rfl) (pa_cons pe_str pa_nil))) pss_nil)
    (pss_cons (ps_if (pt_cmpR op_gt (pe_cal c_size hr (by rfl) (pa_cons (pv 0) pa_nil)) (pe_gi rfl g_MOST_SIZE) (nomark _)) (pss_one (ps_raiseF rfl rfl T hr (takes_of rfl rfl rfl rfl) (pa_cons pe_str pa_nil))) pss_nil)
    (pss_one (ps_ret (pv 0)))))), ?_⟩
  unfold made at q1 q2
  refine if_pureN (p := decide (d.kd = .list) && many d) (PureT.and (fun Q q => ⟨_, rfl, v, d, rfl, R, rfl, _, congrArg V.bl (kd_dec d.kd .list), q⟩) fun h Q q => ?_) (fun h => ?_) fun h => ?_
  · have h := of_decide_eq_true h
    cases R with
    | @lst a vs ds h1 r1 =>
      have e : decide ((200 : Int) < (vs.length : Nat)) = many (.lst ds) := decide_eq_decide.mpr (by rw [r1.length]; omega)
      exact ⟨_, rfl, .inl ⟨_, vs.length, rfl, .inl ⟨vs, .inl (.inl h1), rfl⟩, _, _, rfl, rfl, _, rfl, e ▸ q⟩⟩
    | _ => cases h
  · have h : many d = true := by
      rw [Bool.and_eq_true] at h
      exact h.2
    rw [if_pos h] at q2
    exact ⟨_, rfl, fun d hd => (q2 _ rfl).now d hd⟩
  · have hm : ¬ many d = true := fun e => by
      rw [e, Bool.and_true] at h
      cases d with
      | lst => cases h
      | _ => cases e
    rw [if_neg hm] at q1 q2
    refine if_tstN (p := decide (20 < d.dep)) (fun Q q => ⟨_, rfl, v, d, rfl, R, wd, dp, fun H' s => ⟨_, _, rfl, rfl, _, rfl, ?_⟩⟩) (fun h H1 s1 => ?_) fun h H1 s1 => ?_
    · have e : decide ((20 : Int) < (d.dep : Nat)) = decide (20 < d.dep) := decide_eq_decide.mpr (by omega)
      exact e ▸ q H' s
    · rw [if_pos (of_decide_eq_true h)] at q2
      exact ⟨_, rfl, fun d hd => ((q2 _ rfl).later s1).now d hd⟩
    · have h := of_decide_eq_false h
      rw [if_neg (by omega)] at q1 q2
      refine if_tstN (p := decide (2000 < d.sz)) (fun Q q => ⟨_, rfl, v, d, rfl, R.mono (rds_of s1), wd, dp, fun H' s => ⟨_, _, rfl, rfl, _, rfl, ?_⟩⟩) (fun h H2 s2 => ?_) fun h H2 s2 => ?_
      · have e : decide ((2000 : Int) < (d.sz : Nat)) = decide (2000 < d.sz) := decide_eq_decide.mpr (by omega)
        exact e ▸ q H' s
      · rw [if_pos (of_decide_eq_true h)] at q2
        exact ⟨_, rfl, fun d hd => ((q2 _ rfl).later (s1.trans s2)).now d hd⟩
      · have h := of_decide_eq_false h
        rw [if_neg (by omega)] at q1
        exact ⟨_, rfl, q1 _ rfl _ (s1.trans s2)⟩
abbrev s_need_boolean : Stmt := topS 23
theorem sc_need_boolean : FnScope ["value"] ["value"] (defScope s_need_boolean) := ⟨rfl, rfl, rfl, by decide +kernel, rfl, by decide +kernel, by decide +kernel⟩
theorem cal_need_boolean (D : DefA K mg "need_boolean" s_need_boolean) (z : Nm mg) (T : FltTxt K mg C Vw fI cc cda) (c_kind_of_value : Cal PP w K mg base CX0 1 "kind_of_value" ["value"] spKind) : Cal PP w K mg base (CX PP w) 2 "need_boolean" ["value"] (spNeed C .boolean "not true or false") := by
  refine cal_mk D sc_need_boolean (fun _ _ _ _ _ _ us hl => match us, hl with | [_], _ => rfl) (fun vs H Q E h => ?_) (fun f cdv A outer s H vs Q E hr h => ?_)
  · obtain ⟨i, d, rfl, _⟩ := h
    rfl
  obtain ⟨v, d, rfl, R, q1, q2⟩ := h
  refine ⟨_, (pss_cons (ps_if (pt_cmpR op_ne (pe_cal c_kind_of_value hr (by rfl) (pa_cons (pv 0) pa_nil)) pe_str (nomark _)) (pss_one (ps_raiseF rfl rfl T hr (takes_of rfl rfl rfl rfl) (pa_cons pe_str pa_nil))) pss_nil)
    (pss_one (ps_ret (pv 0)))), ?_⟩
  refine if_pureN (p := !decide (d.kd = .boolean)) (fun Q q => ⟨_, rfl, v, d, rfl, R, rfl, _, congrArg (fun b => V.bl (!b)) (kd_dec d.kd .boolean), q⟩) (fun h => ?_) fun h => ?_
  · exact ⟨_, rfl, fun dd hd => (q2 (by simpa using h)).now dd hd⟩
  · exact ⟨_, rfl, q1 (by simpa using h)⟩
abbrev s_need_number : Stmt := topS 24
theorem sc_need_number : FnScope ["value"] ["value"] (defScope s_need_number) := ⟨rfl, rfl, rfl, by decide +kernel, rfl, by decide +kernel, by decide +kernel⟩
theorem cal_need_number (D : DefA K mg "need_number" s_need_number) (z : Nm mg) (T : FltTxt K mg C Vw fI cc cda) (c_kind_of_value : Cal PP w K mg base CX0 1 "kind_of_value" ["value"] spKind) : Cal PP w K mg base (CX PP w) 2 "need_number" ["value"] (spNeed C .number "not a number") := by
  refine cal_mk D sc_need_number (fun _ _ _ _ _ _ us hl => match us, hl with | [_], _ => rfl) (fun vs H Q E h => ?_) (fun f cdv A outer s H vs Q E hr h => ?_)
  · obtain ⟨i, d, rfl, _⟩ := h
    rfl
  obtain ⟨v, d, rfl, R, q1, q2⟩ := h
  refine ⟨_, (pss_cons (ps_if (pt_cmpR op_ne (pe_cal c_kind_of_value hr (by rfl) (pa_cons (pv 0) pa_nil)) pe_str (nomark _)) (pss_one (ps_raiseF rfl rfl T hr (takes_of rfl rfl rfl rfl) (pa_cons pe_str pa_nil))) pss_nil)
    (pss_one (ps_ret (pv 0)))), ?_⟩
  refine if_pureN (p := !decide (d.kd = .number)) (fun Q q => ⟨_, rfl, v, d, rfl, R, rfl, _, congrArg (fun b => V.bl (!b)) (kd_dec d.kd .number), q⟩) (fun h => ?_) fun h => ?_
  · exact ⟨_, rfl, fun dd hd => (q2 (by simpa using h)).now dd hd⟩
  · exact ⟨_, rfl, q1 (by simpa using h)⟩
abbrev s_need_list : Stmt := topS 26
theorem sc_need_list : FnScope ["value"] ["value"] (defScope s_need_list) := ⟨rfl, rfl, rfl, by decide +kernel, rfl, by decide +kernel, by decide +kernel⟩
theorem cal_need_list (D : DefA K mg "need_list" s_need_list) (z : Nm mg) (T : FltTxt K mg C Vw fI cc cda) (c_kind_of_value : Cal PP w K mg base CX0 1 "kind_of_value" ["value"] spKind) : Cal PP w K mg base (CX PP w) 2 "need_list" ["value"] (spNeed C .list "not a list") := by
  refine cal_mk D sc_need_list (fun _ _ _ _ _ _ us hl => match us, hl with | [_], _ => rfl) (fun vs H Q E h => ?_) (fun f cdv A outer s H vs Q E hr h => ?_)
  · obtain ⟨i, d, rfl, _⟩ := h
    rfl
  obtain ⟨v, d, rfl, R, q1, q2⟩ := h
  refine ⟨_, (pss_cons (ps_if (pt_cmpR op_ne (pe_cal c_kind_of_value hr (by rfl) (pa_cons (pv 0) pa_nil)) pe_str (nomark _)) (pss_one (ps_raiseF rfl rfl T hr (takes_of rfl rfl rfl rfl) (pa_cons pe_str pa_nil))) pss_nil)
    (pss_one (ps_ret (pv 0)))), ?_⟩
  refine if_pureN (p := !decide (d.kd = .list)) (fun Q q => ⟨_, rfl, v, d, rfl, R, rfl, _, congrArg (fun b => V.bl (!b)) (kd_dec d.kd .list), q⟩) (fun h => ?_) fun h => ?_
  · exact ⟨_, rfl, fun dd hd => (q2 (by simpa using h)).now dd hd⟩
  · exact ⟨_, rfl, q1 (by simpa using h)⟩
abbrev s_need_record : Stmt := topS 27
theorem sc_need_record : FnScope ["value"] ["value"] (defScope s_need_record) := ⟨rfl, rfl, rfl, by decide +kernel, rfl, by decide +kernel, by decide +kernel⟩
theorem cal_need_record (D : DefA K mg "need_record" s_need_record) (z : Nm mg) (T : FltTxt K mg C Vw fI cc cda) (c_kind_of_value : Cal PP w K mg base CX0 1 "kind_of_value" ["value"] spKind) : Cal PP w K mg base (CX PP w) 2 "need_record" ["value"] (spNeed C .record "not a record") := by
  refine cal_mk D sc_need_record (fun _ _ _ _ _ _ us hl => match us, hl with | [_], _ => rfl) (fun vs H Q E h => ?_) (fun f cdv A outer s H vs Q E hr h => ?_)
  · obtain ⟨i, d, rfl, _⟩ := h
    rfl
  obtain ⟨v, d, rfl, R, q1, q2⟩ := h
  refine ⟨_, (pss_cons (ps_if (pt_cmpR op_ne (pe_cal c_kind_of_value hr (by rfl) (pa_cons (pv 0) pa_nil)) pe_str (nomark _)) (pss_one (ps_raiseF rfl rfl T hr (takes_of rfl rfl rfl rfl) (pa_cons pe_str pa_nil))) pss_nil)
    (pss_one (ps_ret (pv 0)))), ?_⟩
  refine if_pureN (p := !decide (d.kd = .record)) (fun Q q => ⟨_, rfl, v, d, rfl, R, rfl, _, congrArg (fun b => V.bl (!b)) (kd_dec d.kd .record), q⟩) (fun h => ?_) fun h => ?_
  · exact ⟨_, rfl, fun dd hd => (q2 (by simpa using h)).now dd hd⟩
  · exact ⟨_, rfl, q1 (by simpa using h)⟩
end
end Vk
set_option maxHeartbeats 4000000
/-! places -/
namespace Vk
open PySem PySem.Spec PyProof.Rows L2
/-! ### values of one's own, and their parts -/
theorem fresh_non (H0 H : Hp) : Fresh H0 H .non .non := ⟨[], .non, List.nodup_nil, fun _ h => by cases h⟩
theorem fresh_bl (H0 H : Hp) (b : Bool) : Fresh H0 H (.bl b) (.bl b) := ⟨[], .bl b, List.nodup_nil, fun _ h => by cases h⟩
theorem fresh_int (H0 H : Hp) (b : Int) : Fresh H0 H (.int b) (.int b) := ⟨[], .int b, List.nodup_nil, fun _ h => by cases h⟩
theorem fresh_str (H0 H : Hp) (b : Str) : Fresh H0 H (.str b) (.str b) := ⟨[], .str b, List.nodup_nil, fun _ h => by cases h⟩
theorem Freshs.get {H0 H : Hp} {vs : List V} {ds : List Dat} {i : Nat} {v : V} (f : Freshs H0 H vs ds) (e : vs[i]? = some v) : ∃ d, ds[i]? = some d ∧ Fresh H0 H v d := by
  obtain ⟨F, o, n, z⟩ := f
  obtain ⟨d, G, h1, h2, h3⟩ := o.get e
  exact ⟨d, h1, G, h2, n.sublist h3, fun a ha => z a (h3.subset ha)⟩
theorem Fresh.inLst {H0 H : Hp} {a : Addr} {ds : List Dat} (f : Fresh H0 H (.ref a) (.lst ds)) : ∃ vs, H a = some (.lst vs) ∧ Freshs H0 H vs ds := by
  obtain ⟨F, o, n, z⟩ := f
  cases o with
  | lst h r => exact ⟨_, h, _, r, (List.nodup_cons.mp n).2, fun b hb => z b (List.mem_cons_of_mem _ hb)⟩
theorem Fresh.inRcd {H0 H : Hp} {a : Addr} {ks : List Str} {ds : List Dat} (f : Fresh H0 H (.ref a) (.rcd ks ds)) : ∃ kvs, H a = some (.dK kvs) ∧ kvs.map (·.1) = ks.map Sum.inr ∧ Freshs H0 H (kvs.map (·.2)) ds := by
  obtain ⟨F, o, n, z⟩ := f
  cases o with
  | rcd h k r => exact ⟨_, h, k, _, r, (List.nodup_cons.mp n).2, fun b hb => z b (List.mem_cons_of_mem _ hb)⟩
/-- the value at a name, by its place -/
theorem look_ix (x : Str) : ∀ {kvs : List (Key × V)} {ks : List Str} {ds : List Dat}, kvs.map (·.1) = ks.map Sum.inr → kvs.length = ds.length →
    (∃ (i : Nat) (v : V) (d : Dat), (kvs.map (·.2))[i]? = some v ∧ ds[i]? = some d ∧ valV kvs (Sum.inr x) = some v ∧ lookK ks ds x = some d) ∨ (valV kvs (Sum.inr x) = none ∧ lookK ks ds x = none)
  | [], ks, ds, hk, r => by
    cases ks with
    | nil => cases ds with
      | nil => exact .inr ⟨rfl, rfl⟩
      | cons d ds => cases r
    | cons k ks => cases hk
  | p :: kvs, ks, ds, hk, r => by
    cases ks with
    | nil => cases hk
    | cons k ks =>
      cases ds with
      | nil => cases r
      | cons d ds =>
        rw [List.map_cons, List.map_cons, List.cons.injEq] at hk
        by_cases e : k = x
        · refine .inl ⟨0, p.2, d, rfl, rfl, valV_pos (hk.1.trans (congrArg Sum.inr e)), ?_⟩
          unfold lookK
          rw [if_pos e]
        · have hn : ¬ p.1 = Sum.inr x := fun q => e (Sum.inr.inj (hk.1.symm.trans q))
          have hl : lookK (k :: ks) (d :: ds) x = lookK ks ds x := by
            show (if k = x then some d else lookK ks ds x) = _
            rw [if_neg e]
          rw [valV_neg hn, hl]
          rcases look_ix x hk.2 (Nat.succ.inj r) with ⟨i, v, d', a, b, c, m⟩ | z
          · exact .inl ⟨i + 1, v, d', a, b, c, m⟩
          · exact .inr z
theorem Freshs.length {H0 H : Hp} {vs : List V} {ds : List Dat} (f : Freshs H0 H vs ds) : vs.length = ds.length := f.reps.length
theorem look_fresh (x : Str) {H0 H : Hp} {kvs : List (Key × V)} {ks : List Str} {ds : List Dat} (hk : kvs.map (·.1) = ks.map Sum.inr) (f : Freshs H0 H (kvs.map (·.2)) ds) :
    (∃ v d, valV kvs (Sum.inr x) = some v ∧ lookK ks ds x = some d ∧ Fresh H0 H v d) ∨ (valV kvs (Sum.inr x) = none ∧ lookK ks ds x = none) := by
  have l := f.length
  rw [List.length_map] at l
  rcases look_ix x hk l with ⟨i, v, d, a, b, c, e⟩ | z
  · obtain ⟨d', b', r⟩ := f.get a
    rw [b] at b'
    cases b'
    exact .inl ⟨v, d, c, e, r⟩
  · exact .inr z
/-- a value of one's own, or a fault -/
def Res (C : Addr) (H0 H : Hp) (Q : VK) (E : XK) (r : Rs) : Prop := (∀ d, r = .ok d → ∀ v H', Same H H' → Fresh H0 H' v d → Q v H') ∧ ∀ m, r = .error m → EF C H m E
theorem Res.later {C : Addr} {H0 H H1 : Hp} {Q : VK} {E : XK} {r : Rs} (h : Res C H0 H Q E r) (s : Same H H1) : Res C H0 H1 Q E r := ⟨fun d e v H' s' => h.1 d e v H' (s.trans s'), fun m e => (h.2 m e).later s⟩
/-- .. from a later heap -/
theorem Res.shift {C : Addr} {H0 H H1 : Hp} {Q : VK} {E : XK} {r : Rs} (h : Res C H0 H Q E r) (s : Same H H1) (s0 : Same H0 H := by exact Same.refl _) : Res C H1 H1 Q E r :=
  ⟨fun d e v H' s' f => h.1 d e v H' (s.trans s') (f.older (s0.trans s)), fun m e => (h.2 m e).later s⟩
/-! ### pairs of kinds -/
theorem eqv_pair (a b c d : Kd) : PyData.eqv (.tuple [.str a.s, .str b.s]) (.tuple [.str c.s, .str d.s]) = (decide (a = c) && decide (b = d)) := by
  have e : ∀ a c : Kd, (a.s == c.s) = decide (a = c) := fun a c => by cases a <;> cases c <;> decide +kernel
  show ((a.s == c.s) && ((b.s == d.s) && true)) = _
  rw [e, e, Bool.and_true]
theorem shaped_pair (a b : Kd) : SeqAt.shaped (.tuple [.str a.s, .str b.s]) = true := by cases a <;> cases b <;> decide +kernel
section
variable {K : PySem.W.Frag} {σ : L2.St} {H : Hp} {i : Nat} {p : Addr} {a b : Kd}
theorem dp_pair {H : Hp} {p : Addr} {a b : Kd} (hp : H p = some (.tup [.str a.s, .str b.s])) : Dp K H (.ref p) (.tuple [.str a.s, .str b.s]) := .tup (.inl (.inl hp)) (.cons (.str _) (.cons (.str _) .nil))
theorem pair_eq (kx ky : Kd) (hs : σ[i]? = some (some (.ref p))) (hp : H p = some (.tup [.str a.s, .str b.s])) : Tst (tTest (tOp (rEqD K) (tVar i) (tTup (tCons (tC (.str kx.s)) (tCons (tC (.str ky.s)) tNil))))) σ H (decide (a = kx) && decide (b = ky)) :=
  fun Q q => ⟨_, hs, by show 2 ≤ sizeLine; decide, fun p2 h2 => ⟨_, _, dp_pair (by rw [upd_ne (ne_of_none hp h2)]; exact hp), dp_pair upd_same, shaped_pair a b, shaped_pair kx ky, _, congrArg V.bl (eqv_pair a b kx ky), q _ (same_new h2 _)⟩⟩
theorem pair_ne (kx ky : Kd) (hs : σ[i]? = some (some (.ref p))) (hp : H p = some (.tup [.str a.s, .str b.s])) : Tst (tTest (tOp (rNeD K) (tVar i) (tTup (tCons (tC (.str kx.s)) (tCons (tC (.str ky.s)) tNil))))) σ H (!(decide (a = kx) && decide (b = ky))) :=
  fun Q q => ⟨_, hs, by show 2 ≤ sizeLine; decide, fun p2 h2 => ⟨_, _, dp_pair (by rw [upd_ne (ne_of_none hp h2)]; exact hp), dp_pair upd_same, shaped_pair a b, shaped_pair kx ky, _, congrArg (fun z => V.bl (!z)) (eqv_pair a b kx ky), q _ (same_new h2 _)⟩⟩
/-- kinds = (kind_of_value(x), kind_of_value(y)) -/
theorem kpair {r : TS} {D : Ends} {v u : V} {d e : Dat} {j k : Nat} (h1 : σ[j]? = some (some v)) (R1 : Rep H v d) (h2 : σ[k]? = some (some u)) (R2 : Rep H u e)
    (q : ∀ p, H p = none → r D (σ.set i (some (.ref p))) (upd H p (.tup [.str d.kd.s, .str e.kd.s]))) : tSeq (tAsg (tTup (tCons (tCal spKind E0 (tCons (tVar j) tNil)) (tCons (tCal spKind E0 (tCons (tVar k) tNil)) tNil))) (gName i)) r D σ H :=
  ⟨v, h1, v, d, rfl, R1, u, h2, u, e, rfl, R2, by show 2 ≤ sizeLine; decide, q⟩
end
theorem small5 {n : Nat} (h : n ≤ 5000) : n ≤ sizeLine := Nat.le_trans h (by decide)
theorem getAt_l (ds : List Dat) (i : Int) : getAt (.lst ds) (.int i) = if 0 ≤ i then ds[i.toNat]? else none := rfl
theorem getAt_s (x : Str) (i : Int) : getAt (.str x) (.int i) = if 0 ≤ i then (x.cps.toList[i.toNat]?).map (fun c => Dat.str ⟨#[c]⟩) else none := rfl
/-- value[place], where there is one -/
theorem at_ix {K : PySem.W.Frag} {σ : L2.St} {H0 H : Hp} {i j : Nat} {v p : V} {d e x : Dat} {Q : VK} (h1 : σ[i]? = some (some v)) (h2 : σ[j]? = some (some p)) (f : Fresh H0 H v d) (R : Rep H p e) (wd : d.WD) (g : getAt d e = some x) (q : ∀ u, Fresh H0 H u x → Q u H) :
    tOp (rIx K) (tVar i) (tVar j) σ H Q ∨ tDGet (tVar i) (tVar j) σ H Q := by
  cases d with
  | rcd ks ds =>
    obtain ⟨a, rfl⟩ : ∃ a, v = .ref a := by cases f.rep with | rcd => exact ⟨_, rfl⟩
    cases R with
    | str y =>
      obtain ⟨kvs, ha, hk, fs⟩ := f.inRcd
      have g : lookK ks ds y = some x := g
      rcases look_fresh y hk fs with ⟨u, d, g1, g2, r⟩ | ⟨g1, g2⟩
      · rw [g] at g2
        cases g2
        exact .inr ⟨_, h1, _, h2, a, u, rfl, .inl ⟨kvs, .inr y, .inl ha, rfl, g1.symm⟩, q u r⟩
      · rw [g] at g2
        cases g2
    | _ => cases g
  | lst ds =>
    obtain ⟨a, rfl⟩ : ∃ a, v = .ref a := by cases f.rep with | lst => exact ⟨_, rfl⟩
    cases R with
    | int n =>
      obtain ⟨vs, ha, fs⟩ := f.inLst
      rw [getAt_l] at g
      by_cases h0 : 0 ≤ n
      · rw [if_pos h0] at g
        have hl : n.toNat < ds.length := (List.getElem?_eq_some_iff.mp g).1
        have hv : n.toNat < vs.length := by rw [fs.length]; exact hl
        obtain ⟨d, g2, r⟩ := fs.get (List.getElem?_eq_getElem hv)
        rw [g] at g2
        cases g2
        refine .inl ⟨_, h1, _, h2, .inl ⟨a, vs, n, _, rfl, rfl, .inl (.inl ha), ?_, q _ r⟩⟩
        have e : ((n.toNat : Nat) : Int) = n := Int.toNat_of_nonneg h0
        have := atI_nat (List.getElem?_eq_getElem hv)
        rw [e] at this
        exact this
      · rw [if_neg h0] at g
        cases g
    | _ => cases g
  | str y =>
    obtain rfl : v = .str y := by cases f.rep; rfl
    cases R with
    | int n =>
      rw [getAt_s] at g
      by_cases h0 : 0 ≤ n
      · rw [if_pos h0] at g
        obtain ⟨c, hc, rfl⟩ := Option.map_eq_some_iff.mp g
        refine .inl ⟨_, h1, _, h2, .inr (.inr ⟨y, n, c, rfl, rfl, small5 wd, ?_, q _ (fresh_str _ _ _)⟩)⟩
        have e : ((n.toNat : Nat) : Int) = n := Int.toNat_of_nonneg h0
        have := atI_nat hc
        rw [e] at this
        exact this
      · rw [if_neg h0] at g
        cases g
    | _ => cases g
  | _ => cases g
def spField (C : Addr) : Sp := fun vs H Q E => ∃ H0 v x d, vs = [v, .str x] ∧ Fresh H0 H v d ∧ x.length ≤ 5000 ∧ Res C H0 H Q E (fieldD x d)
def spHas (C : Addr) : Sp := fun vs H Q E => ∃ v p d e, vs = [v, p] ∧ Rep H v d ∧ Rep H p e ∧ d.WD ∧ (placed d e = true → ∀ H', Same H H' → Q (.bl (getAt d e).isSome) H') ∧ (placed d e = false → EF C H "not a place" E)
def spAt (C : Addr) : Sp := fun vs H Q E => ∃ H0 v p d e, vs = [v, p] ∧ Fresh H0 H v d ∧ Rep H p e ∧ d.WD ∧ Res C H0 H Q E (atD d e)
theorem placed_kd (d e : Dat) : placed d e = ((decide (d.kd = .record) && decide (e.kd = .text)) || ((decide (d.kd = .list) && decide (e.kd = .number)) || (decide (d.kd = .text) && decide (e.kd = .number)))) := by
  cases d <;> cases e <;> rfl
theorem fieldD_r (x : Str) (ks : List Str) (ds : List Dat) : fieldD x (.rcd ks ds) = match lookK ks ds x with
    | some d => .ok d
    | none => .error (("no field " : Str) ++ x) := rfl
theorem getAt_lst {ds : List Dat} {i : Int} : (getAt (.lst ds) (.int i)).isSome = (decide (0 ≤ i) && decide (i < (ds.length : Nat))) := by
  rw [getAt_l]
  by_cases h : 0 ≤ i
  · rw [if_pos h, decide_eq_true h, Bool.true_and]
    by_cases h2 : i < (ds.length : Nat)
    · rw [decide_eq_true h2, List.getElem?_eq_getElem (by omega)]; rfl
    · rw [decide_eq_false h2, List.getElem?_eq_none (by omega)]; rfl
  · rw [if_neg h, decide_eq_false h]; rfl
theorem getAt_str {x : Str} {i : Int} : (getAt (.str x) (.int i)).isSome = (decide (0 ≤ i) && decide (i < (x.length : Nat))) := by
  have hl : x.cps.toList.length = x.length := by simp [Str.length]
  rw [getAt_s]
  by_cases h : 0 ≤ i
  · rw [if_pos h, decide_eq_true h, Bool.true_and, Option.isSome_map]
    by_cases h2 : i < (x.length : Nat)
    · rw [decide_eq_true h2, List.getElem?_eq_getElem (by omega)]; rfl
    · rw [decide_eq_false h2, List.getElem?_eq_none (by omega)]; rfl
  · rw [if_neg h, decide_eq_false h]; rfl
section
variable {w : World} {K : PySem.W.Frag} {mg : Str → Option Value} {base : Heap} {n k : Nat} {C Vw fI cc cda : Addr}
abbrev s_field_of : Stmt := topS 30
theorem sc_field_of : FnScope ["value", "name"] ["value", "name"] (defScope s_field_of) := ⟨rfl, rfl, rfl, by decide +kernel, rfl, by decide +kernel, by decide +kernel⟩
theorem cal_field_of (D : DefA K mg "field_of" s_field_of) (z : Nm mg) (T : FltTxt K mg C Vw fI cc cda) (c_kind_of_value : Cal PP w K mg base CX0 1 "kind_of_value" ["value"] spKind) : Cal PP w K mg base (CX PP w) 2 "field_of" ["value", "name"] (spField C) := by
  refine cal_mk D sc_field_of (fun _ _ _ _ _ _ us hl => match us, hl with | [_, _], _ => rfl) (fun vs H Q E h => ?_) (fun f cdv A outer s H vs Q E hr h => ?_)
  · obtain ⟨H0, v, x, d, rfl, _⟩ := h
    rfl
  obtain ⟨H0, v, x, d, rfl, R, lx, q1, q2⟩ := h
  have hu := hu_of hr
  refine ⟨_, (pss_cons (ps_if (pt_cmpR op_ne (pe_cal c_kind_of_value hr (by rfl) (pa_cons (pv 0) pa_nil)) pe_str (nomark _)) (pss_one (ps_raiseF rfl rfl T hr (takes_of rfl rfl rfl rfl) (pa_cons pe_str pa_nil))) pss_nil)
    (pss_cons (ps_if (pt_cmp (pc_dnotin hu (pv 1) (pv 0))) (pss_one (ps_raiseF rfl rfl T hr (takes_of rfl rfl rfl rfl) (pa_cons (pe_op op_add_str pe_str (pv 1)) pa_nil))) pss_nil)
    (pss_one (ps_ret (pe_dget hu (pv 0) (pv 1) (fun _ _ => rfl)))))), ?_⟩
  refine if_pureN (p := !decide (d.kd = .record)) (fun Q q => ⟨_, rfl, v, d, rfl, R.rep, rfl, _, congrArg (fun b => V.bl (!b)) (kd_dec d.kd .record), q⟩) (fun h => ?_) fun h => ?_
  · have e : fieldD x d = .error "not a record" := by
      cases d with
      | rcd => cases h
      | _ => rfl
    exact ⟨_, rfl, fun dd hd => (q2 _ e).now dd hd⟩
  · cases d with
    | rcd ks ds =>
      obtain ⟨a, rfl⟩ : ∃ a, v = .ref a := by cases R.rep with | rcd => exact ⟨_, rfl⟩
      obtain ⟨kvs, ha, hk, f⟩ := R.inRcd
      rcases look_fresh x hk f with ⟨v, d, g1, g2, r⟩ | ⟨g1, g2⟩
      · have e : fieldD x (.rcd ks ds) = .ok d := by rw [fieldD_r, g2]
        refine if_pureN (p := false) (fun Q q => ⟨_, rfl, _, rfl, a, _, rfl, .inl ⟨kvs, .inr x, .inl ha, rfl, rfl⟩, by rw [g1]; exact ⟨_, rfl, q⟩⟩) (fun h => by cases h) fun h => ?_
        exact ⟨_, rfl, _, rfl, a, v, rfl, .inl ⟨kvs, .inr x, .inl ha, rfl, g1.symm⟩, q1 d e v H (.refl H) r⟩
      · have e : fieldD x (.rcd ks ds) = .error (("no field " : Str) ++ x) := by rw [fieldD_r, g2]
        refine if_pureN (p := true) (fun Q q => ⟨_, rfl, _, rfl, a, _, rfl, .inl ⟨kvs, .inr x, .inl ha, rfl, rfl⟩, by rw [g1]; exact ⟨_, rfl, q⟩⟩) (fun h => ?_) fun h => by cases h
        refine ⟨_, rfl, _, _, rfl, rfl, ?_, _, rfl, fun dd hd => (q2 _ e).now dd hd⟩
        show 9 + x.length ≤ sizeLine
        exact Nat.le_trans (Nat.add_le_add_left lx 9) (by decide)
    | _ => cases h
abbrev s_has_place : Stmt := topS 31
theorem sc_has_place : FnScope ["value", "place", "kinds"] ["value", "place"] (defScope s_has_place) := ⟨rfl, rfl, rfl, by decide +kernel, rfl, by decide +kernel, by decide +kernel⟩
theorem cal_has_place (D : DefA K mg "has_place" s_has_place) (z : Nm mg) (T : FltTxt K mg C Vw fI cc cda) (c_kind_of_value : Cal PP w K mg base CX0 1 "kind_of_value" ["value"] spKind) : Cal PP w K mg base (CX PP w) 2 "has_place" ["value", "place"] (spHas C) := by
  refine cal_mk D sc_has_place (fun _ _ _ _ _ _ us hl => match us, hl with | [_, _], _ => rfl) (fun vs H Q E h => ?_) (fun f cdv A outer s H vs Q E hr h => ?_)
  · obtain ⟨v, p, d, e, rfl, _⟩ := h
    rfl
  obtain ⟨v, p, d, e, rfl, R1, R2, wd, q1, q2⟩ := h
  have hu := hu_of hr
  refine ⟨_, (pss_cons (ps_set (i := 2) sc_has_place.nd rfl (Or.inl rfl) (pe_tup (pa_cons (pe_cal c_kind_of_value hr (by rfl) (pa_cons (pv 0) pa_nil)) (pa_cons (pe_cal c_kind_of_value hr (by rfl) (pa_cons (pv 1) pa_nil)) pa_nil))))
    (pss_cons (ps_if (pt_cmpR (op_eqD hr.units) (pv 2) (pe_tup (pa_cons pe_str (pa_cons pe_str pa_nil))) (nomark _)) (pss_one (ps_ret (pe_cmp (pc_din hu (pv 1) (pv 0))))) pss_nil)
    (pss_cons (ps_if (PW.pt (pw_or (pt_cmpR (op_eqD hr.units) (pv 2) (pe_tup (pa_cons pe_str (pa_cons pe_str pa_nil))) (nomark _)) (pw_or1 (pt_cmpR (op_eqD hr.units) (pv 2) (pe_tup (pa_cons pe_str (pa_cons pe_str pa_nil))) (nomark _))))) (pss_one (ps_ret (pe_chain op_le op_lt pe_int (pv 1) (pe_callB (call_lenK (K := K) rfl) (by rfl) z.len (by decide +kernel) (pa_cons (pv 0) pa_nil))))) pss_nil)
    (pss_one (ps_raiseF rfl rfl T hr (takes_of rfl rfl rfl rfl) (pa_cons pe_str pa_nil)))))), ?_⟩
  refine kpair rfl R1 rfl R2 fun t ht => ?_
  have s1 := same_new ht (.tup [.str d.kd.s, .str e.kd.s])
  refine if_tstN (pair_eq .record .text rfl upd_same) (fun h H1 s2 => ?_) fun n1 H1 s2 => ?_
  · rw [Bool.and_eq_true] at h
    have h1 := of_decide_eq_true h.1
    have h2 := of_decide_eq_true h.2
    have sE := s1.trans s2
    cases R1 with
    | @rcd a kvs ks ds ha hk r =>
      cases R2 with
      | str x =>
        refine ⟨_, rfl, _, rfl, a, _, rfl, .inl ⟨kvs, .inr x, (rds_of sE).dic _ _ ha, rfl, rfl⟩, ?_⟩
        have e : (valV kvs (Sum.inr x)).isSome = (lookK ks ds x).isSome := by
          rcases look_rep x hk r with ⟨v, d, g1, g2, _⟩ | ⟨g1, g2⟩ <;> rw [g1, g2]
          all_goals rfl
        rw [e]
        exact q1 rfl _ sE
      | _ => cases h2
    | _ => cases h1
  · have t1 := (s1.trans s2) 
    refine if_tstN ((pair_eq .list .number rfl (s2 _ _ upd_same)).or fun _ H2 s3 => pair_eq .text .number rfl (s3 _ _ (s2 _ _ upd_same))) (fun h H2 s3 => ?_) fun n2 H2 s3 => ?_
    · have sE := (s1.trans s2).trans s3
      have pl : placed d e = true := by rw [placed_kd, h, Bool.or_true]
      have he : ∃ i, e = .int i := by
        cases d <;> cases e <;> first | exact ⟨_, rfl⟩ | cases h
      obtain ⟨i, rfl⟩ := he
      obtain rfl : p = .int i := by cases R2; rfl
      refine ⟨_, rfl, _, _, rfl, rfl, _, rfl, ?_⟩
      cases R1 with
      | @lst a us ds ha r =>
        have q1 := q1 pl
        rw [getAt_lst] at q1
        refine ite2 (fun h0 => ?_) fun h0 => ?_
        · refine ⟨_, rfl, .inl ⟨_, us.length, rfl, .inl ⟨us, .inl (.inl (sE _ _ ha)), rfl⟩, _, _, rfl, rfl, ?_⟩⟩
          rw [h0, Bool.true_and, ← r.length] at q1
          exact q1 _ sE
        · rw [Bool.not_eq_true] at h0
          rw [h0, Bool.false_and] at q1
          exact q1 _ sE
      | @str x =>
        have q1 := q1 pl
        rw [getAt_str] at q1
        refine ite2 (fun h0 => ?_) fun h0 => ?_
        · refine ⟨_, rfl, .inl ⟨_, x.length, rfl, ⟨small5 wd, rfl⟩, _, _, rfl, rfl, ?_⟩⟩
          rw [h0, Bool.true_and] at q1
          exact q1 _ sE
        · rw [Bool.not_eq_true] at h0
          rw [h0, Bool.false_and] at q1
          exact q1 _ sE
      | _ => cases h
    · have pl : placed d e = false := by rw [placed_kd, n1, n2]; rfl
      exact ⟨_, rfl, fun dd hd => ((q2 pl).later ((s1.trans s2).trans s3)).now dd hd⟩
abbrev s_at_place : Stmt := topS 32
theorem sc_at_place : FnScope ["value", "place"] ["value", "place"] (defScope s_at_place) := ⟨rfl, rfl, rfl, by decide +kernel, rfl, by decide +kernel, by decide +kernel⟩
theorem cal_at_place (D : DefA K mg "at_place" s_at_place) (z : Nm mg) (T : FltTxt K mg C Vw fI cc cda) (c_has_place : Cal PP w K mg base (CX PP w) 2 "has_place" ["value", "place"] (spHas C)) : Cal PP w K mg base (CX PP w) 3 "at_place" ["value", "place"] (spAt C) := by
  refine cal_mk D sc_at_place (fun _ _ _ _ _ _ us hl => match us, hl with | [_, _], _ => rfl) (fun vs H Q E h => ?_) (fun f cdv A outer s H vs Q E hr h => ?_)
  · obtain ⟨H0, v, p, d, e, rfl, _⟩ := h
    rfl
  obtain ⟨H0, v, p, d, e, rfl, R1, R2, wd, q1, q2⟩ := h
  have hu := hu_of hr
  refine ⟨_, (pss_cons (ps_if (pt_not (pt_val (pe_calS c_has_place hr (by rfl) (fun σ => passAt (takes_of rfl rfl rfl rfl) σ) (pa_cons (pv 0) (pa_cons (pv 1) pa_nil))))) (pss_one (ps_raiseF rfl rfl T hr (takes_of rfl rfl rfl rfl) (pa_cons pe_str pa_nil))) pss_nil)
    (pss_one (ps_ret (pe_or2 (pe_ix ix_seq (pv 0) (pv 1) (fun _ _ => rfl)) (pe_dget hu (pv 0) (pv 1) (fun _ _ => rfl)))))), ?_⟩
  refine ⟨_, rfl, _, rfl, v, p, d, e, rfl, R1.rep, R2, wd, fun pl H' s => ⟨_, rfl, ?_⟩, fun pl => q2 _ (by unfold atD; rw [if_neg (by rw [pl]; exact Bool.false_ne_true)])⟩
  cases g : getAt d e with
  | none => exact iteT ⟨_, rfl, fun dd hd => ((q2 "nothing there" (by unfold atD; rw [if_pos pl, g])).later s).now dd hd⟩
  | some x => exact iteF (at_ix rfl rfl (R1.same s) (R2.mono (rds_of s)) wd g fun u r => q1 x (by unfold atD; rw [if_pos pl, g]) u H' s r)
end
end Vk
set_option maxHeartbeats 4000000
/-! the functions of the table -/
namespace Vk
open PySem PySem.Spec PyProof.Rows L2
theorem passA {X : Cx} {E : XK} (tk : Takes X (fun cls d _ H => E cls d H)) : Passes (L2.CX X.prog X.w) X E := fun pins σ H s e s' I c => passAt tk σ pins H s e s' I c
/-! ### x in (..) of texts -/
theorem inV_strs (x : Str) : ∀ l : List Str, inV (.str x) (l.map V.str) = decide (x ∈ l)
  | [] => rfl
  | y :: l => by
    have ih := inV_strs x l
    unfold inV at ih ⊢
    rw [List.map_cons, List.any_cons, ih]
    show ((y == x) || _) = _
    by_cases e : y = x
    · subst e
      simp
    · have e' : ¬ x = y := fun h => e h.symm
      rw [beq_false_of_ne e, Bool.false_or]
      exact decide_eq_decide.mpr ⟨fun h => List.mem_cons_of_mem _ h, fun h => (List.mem_cons.mp h).elim (fun q => absurd q e') id⟩
theorem flat_strs : ∀ l : List Str, (l.map V.str).all flatV = true
  | [] => rfl
  | y :: l => by rw [List.map_cons, List.all_cons, flat_strs l]; rfl
/-- the value is v, the heap as it was -/
def Val (te : TE) (σ : L2.St) (H : Hp) (v : V) : Prop := ∀ Q : VK, Q v H → te σ H Q
section
variable {K : PySem.W.Frag} {σ : L2.St} {H : Hp} {te : TE} {x : Str} {neg : Bool}
def xr (neg b : Bool) : Bool := if neg then !b else b
theorem tin2 (a b : Str) (hv : Val te σ H (.str x)) : Tst (tTest (tOp (rIn K neg) te (tTup (tCons (tC (.str a)) (tCons (tC (.str b)) tNil))))) σ H (xr neg (decide (x ∈ [a, b]))) :=
  fun Q q => hv _ ⟨by show 2 ≤ sizeLine; decide, fun p hp => ⟨p, [a, b].map V.str, rfl, .inr (.inl (.inl upd_same)), rfl, flat_strs _, _, rfl, by
    have e := inV_strs x [a, b]
    cases neg with
    | true => rw [if_pos rfl, e]; exact q _ (same_new hp _)
    | false => rw [if_neg Bool.false_ne_true, e]; exact q _ (same_new hp _)⟩⟩
theorem tin3 (a b c : Str) (hv : Val te σ H (.str x)) : Tst (tTest (tOp (rIn K neg) te (tTup (tCons (tC (.str a)) (tCons (tC (.str b)) (tCons (tC (.str c)) tNil)))))) σ H (xr neg (decide (x ∈ [a, b, c]))) :=
  fun Q q => hv _ ⟨by show 3 ≤ sizeLine; decide, fun p hp => ⟨p, [a, b, c].map V.str, rfl, .inr (.inl (.inl upd_same)), rfl, flat_strs _, _, rfl, by
    have e := inV_strs x [a, b, c]
    cases neg with
    | true => rw [if_pos rfl, e]; exact q _ (same_new hp _)
    | false => rw [if_neg Bool.false_ne_true, e]; exact q _ (same_new hp _)⟩⟩
theorem tin4 (a b c d : Str) (hv : Val te σ H (.str x)) : Tst (tTest (tOp (rIn K neg) te (tTup (tCons (tC (.str a)) (tCons (tC (.str b)) (tCons (tC (.str c)) (tCons (tC (.str d)) tNil))))))) σ H (xr neg (decide (x ∈ [a, b, c, d]))) :=
  fun Q q => hv _ ⟨by show 4 ≤ sizeLine; decide, fun p hp => ⟨p, [a, b, c, d].map V.str, rfl, .inr (.inl (.inl upd_same)), rfl, flat_strs _, _, rfl, by
    have e := inV_strs x [a, b, c, d]
    cases neg with
    | true => rw [if_pos rfl, e]; exact q _ (same_new hp _)
    | false => rw [if_neg Bool.false_ne_true, e]; exact q _ (same_new hp _)⟩⟩
end
/-- the i-th of a list -/
theorem at_list {K : PySem.W.Frag} {σ : L2.St} {H : Hp} {i : Nat} {A : Addr} {ws : List V} {v : V} {Q : VK} (j : Nat) (h1 : σ[i]? = some (some (.ref A))) (hA : H A = some (.lst ws)) (e : ws[j]? = some v) (q : Q v H) : tOp (rIxL K) (tVar i) (tC (.int ((j : Nat) : Int))) σ H Q :=
  ⟨_, h1, A, ws, _, v, rfl, rfl, .inl (.inl hA), atI_nat e, q⟩
/-- a function of the table -/
def spFn (C : Addr) (fn : Fn) : Sp := fun vs H Q E => ∃ H0 A ws ds, vs = [.ref A] ∧ H A = some (.lst ws) ∧ Freshs H0 H ws ds ∧ WDL ds ∧ ds.length = fn.ar ∧ Same H0 H ∧ Res C H0 H Q E (fnD fn ds)
def spQuot (C : Addr) : Sp := fun vs H Q E => ∃ i j, vs = [.int i, .int j] ∧ (-big30 ≤ i ∧ i ≤ big30) ∧ (-big30 ≤ j ∧ j ≤ big30) ∧ (j ≠ 0 → Q (.int (quot i j)) H) ∧ (j = 0 → EF C H "division by 0" E)
theorem lt100 {i : Int} (h : -big30 ≤ i ∧ i ≤ big30) : i.natAbs < 2 ^ 100 := by
  have hb : big30 = 1000000000000000000000000000000 := rfl
  rw [hb] at h
  have : (2 : Nat) ^ 100 = 1267650600228229401496703205376 := by decide
  omega
theorem mem3 (k : Kd) : decide (k.s ∈ [("text" : Str), "list", "record"]) = decide (k = .text ∨ k = .list ∨ k = .record) := by cases k <;> decide +kernel
/-! ### sorted keys -/
theorem made_ok {d e : Dat} (h : made d = .ok e) : e = d := by
  unfold made at h
  repeat (split at h; · cases h)
  cases h
  rfl
theorem lt_cons (a b : Nat) (r t : List Nat) : ltCps (a :: r) (b :: t) = (decide (a < b) || (a == b && ltCps r t)) := rfl
theorem cps_trans : ∀ {a b c : List Nat}, ltCps b a = false → ltCps c b = false → ltCps c a = false
  | [], [], c, _, h => h
  | [], _ :: _, [], _, h => by cases h
  | [], _ :: _, _ :: _, _, _ => rfl
  | _ :: _, [], _, h, _ => by cases h
  | _ :: _, _ :: _, [], _, h => by cases h
  | x :: a, y :: b, z :: c, h1, h2 => by
    rw [lt_cons, Bool.or_eq_false_iff] at h1 h2 ⊢
    have g1 := of_decide_eq_false h1.1
    have g2 := of_decide_eq_false h2.1
    refine ⟨decide_eq_false (by omega), ?_⟩
    by_cases e : z = x
    · have e1 : y = x := by omega
      have e2 : z = y := by omega
      have k1 := h1.2
      have k2 := h2.2
      rw [e1, beq_self_eq_true, Bool.true_and] at k1
      rw [e2, beq_self_eq_true, Bool.true_and] at k2
      rw [cps_trans k1 k2, Bool.and_false]
    · rw [beq_false_of_ne e, Bool.false_and]
theorem cps_anti : ∀ {a b : List Nat}, ltCps b a = false → ltCps a b = false → a = b
  | [], [], _, _ => rfl
  | [], _ :: _, _, h => by cases h
  | _ :: _, [], h, _ => by cases h
  | x :: a, y :: b, h1, h2 => by
    rw [lt_cons, Bool.or_eq_false_iff] at h1 h2
    have g1 := of_decide_eq_false h1.1
    have g2 := of_decide_eq_false h2.1
    have e : x = y := by omega
    subst e
    have k1 := h1.2
    have k2 := h2.2
    rw [beq_self_eq_true, Bool.true_and] at k1 k2
    rw [cps_anti k1 k2]
def leS (a b : Str) : Prop := ltCps b.cps.toList a.cps.toList = false
theorem risingS_pw : ∀ (p : Str) (l : List Str), risingS p l = true → (p :: l).Pairwise leS
  | p, [], _ => List.pairwise_cons.mpr ⟨fun _ h => (by cases h), List.Pairwise.nil⟩
  | p, x :: r, h => by
    have h : (!ltCps x.cps.toList p.cps.toList && risingS x r) = true := h
    rw [Bool.and_eq_true, Bool.not_eq_true'] at h
    have ih := risingS_pw x r h.2
    refine List.pairwise_cons.mpr ⟨fun a ha => ?_, ih⟩
    rcases List.mem_cons.mp ha with e | m
    · rw [e]
      exact h.1
    · exact cps_trans h.1 ((List.pairwise_cons.mp ih).1 a m)
theorem sortedS_pw : ∀ (l : List Str), sortedS l = true → l.Pairwise leS
  | [], _ => List.Pairwise.nil
  | x :: r, h => risingS_pw x r h
theorem leS_anti {a b : Str} (h1 : leS a b) (h2 : leS b a) : a = b := by
  have e := cps_anti h1 h2
  cases a with
  | mk ca =>
    cases b with
    | mk cb =>
      have e : ca.toList = cb.toList := e
      rw [Array.toList_inj.mp e]
theorem sorted_one {xs ys : List Str} (hp : xs.Perm ys) (h1 : sortedS xs = true) (h2 : sortedS ys = true) : xs = ys :=
  List.Perm.eq_of_pairwise (le := leS) (fun a b _ _ x y => leS_anti x y) (sortedS_pw _ h1) (sortedS_pw _ h2) hp
theorem srt_eq {ks ys : List Str} (hp : ys.Perm ks) (hs : sortedS ys = true) : srt ks = ys := by
  have h : ∃ ys : List Str, ys.Perm ks ∧ sortedS ys = true := ⟨ys, hp, hs⟩
  unfold srt
  rw [dif_pos h]
  exact sorted_one (h.choose_spec.1.trans hp.symm) h.choose_spec.2 hs
theorem leS_refl (a : Str) : leS a a := by
  have : ∀ l : List Nat, ltCps l l = false := by
    intro l
    induction l with
    | nil => rfl
    | cons x l ih => rw [lt_cons, ih, Bool.and_false, Bool.or_false]; exact decide_eq_false (Nat.lt_irrefl x)
  exact this _
theorem leS_total (a b : Str) : leS a b ∨ leS b a := by
  have : ∀ l m : List Nat, ltCps m l = false ∨ ltCps l m = false := by
    intro l
    induction l with
    | nil => intro m; cases m with
      | nil => exact .inl rfl
      | cons y m => exact .inl rfl
    | cons x l ih =>
      intro m
      cases m with
      | nil => exact .inr rfl
      | cons y m =>
        rw [lt_cons, lt_cons]
        rcases Nat.lt_trichotomy x y with h | h | h
        · refine .inl ?_
          rw [decide_eq_false (by omega), beq_false_of_ne (by omega)]
          rfl
        · subst h
          rcases ih m with q | q
          · refine .inl ?_
            rw [q, Bool.and_false, Bool.or_false]
            exact decide_eq_false (Nat.lt_irrefl x)
          · refine .inr ?_
            rw [q, Bool.and_false, Bool.or_false]
            exact decide_eq_false (Nat.lt_irrefl x)
        · refine .inr ?_
          rw [decide_eq_false (by omega), beq_false_of_ne (by omega)]
          rfl
  exact this _ _
def leB (a b : Str) : Bool := !ltCps b.cps.toList a.cps.toList
theorem srt_is (ks : List Str) : ∃ ys : List Str, ys.Perm ks ∧ sortedS ys = true := by
  refine ⟨ks.mergeSort leB, List.mergeSort_perm ks leB, sortedS_of_pairwise _ ?_⟩
  have h := List.pairwise_mergeSort (le := leB) (fun a b c h1 h2 => by
      have h1 : (!ltCps b.cps.toList a.cps.toList) = true := h1
      have h2 : (!ltCps c.cps.toList b.cps.toList) = true := h2
      show (!ltCps c.cps.toList a.cps.toList) = true
      rw [Bool.not_eq_true'] at h1 h2 ⊢
      exact cps_trans h1 h2) (fun a b => by
      show (!ltCps b.cps.toList a.cps.toList || !ltCps a.cps.toList b.cps.toList) = true
      rcases leS_total a b with q | q
      · have q : ltCps b.cps.toList a.cps.toList = false := q
        rw [q]; rfl
      · have q : ltCps a.cps.toList b.cps.toList = false := q
        rw [q, Bool.not_false, Bool.or_true]) ks
  refine h.imp fun {a b} hab => ?_
  have hab : (!ltCps b.cps.toList a.cps.toList) = true := hab
  rwa [Bool.not_eq_true'] at hab
theorem Freshs.nth {H0 H : Hp} {vs : List V} {ds : List Dat} {v : V} {d : Dat} (f : Freshs H0 H vs ds) (i : Nat) (e : vs[i]? = some v) (e2 : ds[i]? = some d) : Fresh H0 H v d := by
  obtain ⟨d', h, r⟩ := f.get e
  rw [e2] at h
  cases h
  exact r
theorem WDL_strs : ∀ {ys : List Str}, (∀ y ∈ ys, y.length ≤ 5000) → WDL (ys.map Dat.str)
  | [], _ => trivial
  | y :: ys, h => ⟨h y List.mem_cons_self, WDL_strs fun z hz => h z (List.mem_cons_of_mem _ hz)⟩
theorem depL_strs : ∀ ys : List Str, depL (ys.map Dat.str) ≤ 1
  | [] => Nat.zero_le _
  | y :: ys => by
    show max 1 (depL (ys.map Dat.str)) ≤ 1
    exact Nat.max_le.mpr ⟨Nat.le_refl _, depL_strs ys⟩
theorem Owns_strs (H : Hp) : ∀ ys : List Str, Owns H (ys.map V.str) (ys.map Dat.str) []
  | [] => .nil
  | y :: ys => .cons (.str y) (Owns_strs H ys)
section
variable {w : World} {K : PySem.W.Frag} {mg : Str → Option Value} {base : Heap} {n k : Nat} {C Vw fI cc cda : Addr}
abbrev s_length_of : Stmt := topS 36
theorem sc_length_of : FnScope ["arguments"] ["arguments"] (defScope s_length_of) := ⟨rfl, rfl, rfl, by decide +kernel, rfl, by decide +kernel, by decide +kernel⟩
theorem cal_length_of (D : DefA K mg "length_of" s_length_of) (z : Nm mg) (T : FltTxt K mg C Vw fI cc cda) (c_kind_of_value : Cal PP w K mg base CX0 1 "kind_of_value" ["value"] spKind) : Cal PP w K mg base (CX PP w) 2 "length_of" ["arguments"] (spFn C .length) := by
  refine cal_mk D sc_length_of (fun _ _ _ _ _ _ us hl => match us, hl with | [_], _ => rfl) (fun vs H Q E h => ?_) (fun f cdv A outer s H vs Q E hr h => ?_)
  · obtain ⟨H0, A, ws, ds, rfl, _⟩ := h
    rfl
  obtain ⟨H0, A, ws, ds, rfl, hA, f, wd, ln, s0, q1, q2⟩ := h
  refine ⟨_, (pss_cons (ps_if (pt_cmpR op_notIn_seq (pe_cal c_kind_of_value hr (by rfl) (pa_cons (pe_ix ix_list (pv 0) pe_int (fun _ _ => rfl)) pa_nil)) (pe_tup (pa_cons pe_str (pa_cons pe_str (pa_cons pe_str pa_nil)))) rfl) (pss_one (ps_raiseF rfl rfl T hr (takes_of rfl rfl rfl rfl) (pa_cons pe_str pa_nil))) pss_nil)
    (pss_one (ps_ret (pe_callB (call_lenK (K := K) rfl) (by rfl) z.len (by decide +kernel) (pa_cons (pe_ix ix_list (pv 0) pe_int (fun _ _ => rfl)) pa_nil))))), ?_⟩
  match ds, ln with
  | [d], _ =>
  match ws, f.length with
  | [v], _ =>
  have R := (f.nth 0 rfl rfl).rep
  refine if_tstN (tin3 "text" "list" "record" fun Q q => at_list 0 rfl hA rfl ⟨v, d, rfl, R, q⟩) (fun h H1 s1 => ?_) fun h H1 s1 => ?_
  · have h : (!decide (d.kd.s ∈ [("text" : Str), "list", "record"])) = true := h
    rw [mem3] at h
    have e : fnD .length [d] = .error "not a list, text or record" := by
      cases d <;> first | rfl | exact absurd h (by simp [Dat.kd])
    exact ⟨_, rfl, fun dd hd => ((q2 _ e).later s1).now dd hd⟩
  · have h : (!decide (d.kd.s ∈ [("text" : Str), "list", "record"])) = false := h
    rw [mem3] at h
    refine at_list 0 rfl (s1 _ _ hA) rfl ?_
    cases R with
    | str x => exact .inl ⟨_, x.length, rfl, ⟨small5 wd.1, rfl⟩, q1 _ rfl _ _ s1 (fresh_int _ _ _)⟩
    | @lst a us ds ha r =>
      refine .inl ⟨_, us.length, rfl, .inl ⟨us, .inl (.inl (s1 _ _ ha)), rfl⟩, ?_⟩
      rw [r.length]
      exact q1 _ rfl _ _ s1 (fresh_int _ _ _)
    | @rcd a kvs ks ds ha hk r =>
      refine .inr ⟨_, kvs, rfl, (rds_of s1).dic _ _ ha, ?_⟩
      rw [keys_len hk]
      exact q1 _ rfl _ _ s1 (fresh_int _ _ _)
    | _ => cases h
abbrev s_text_from : Stmt := topS 37
theorem sc_text_from : FnScope ["arguments", "text"] ["arguments"] (defScope s_text_from) := ⟨rfl, rfl, rfl, by decide +kernel, rfl, by decide +kernel, by decide +kernel⟩
theorem cal_text_from (D : DefA K mg "text_from" s_text_from) (z : Nm mg) (T : FltTxt K mg C Vw fI cc cda) (c_text_of : Cal PP w K mg base CX0 2 "text_of" ["value"] spText) : Cal PP w K mg base (CX PP w) 3 "text_from" ["arguments"] (spFn C .text) := by
  refine cal_mk D sc_text_from (fun _ _ _ _ _ _ us hl => match us, hl with | [_], _ => rfl) (fun vs H Q E h => ?_) (fun f cdv A outer s H vs Q E hr h => ?_)
  · obtain ⟨H0, A, ws, ds, rfl, _⟩ := h
    rfl
  obtain ⟨H0, A, ws, ds, rfl, hA, f, wd, ln, s0, q1, q2⟩ := h
  refine ⟨_, (pss_cons (ps_set (i := 1) sc_text_from.nd rfl (Or.inl rfl) (pe_cal c_text_of hr (by rfl) (pa_cons (pe_ix ix_list (pv 0) pe_int (fun _ _ => rfl)) pa_nil)))
    (pss_cons (ps_if (pt_cmpR op_isN (pv 1) pe_non (nomark _)) (pss_one (ps_raiseF rfl rfl T hr (takes_of rfl rfl rfl rfl) (pa_cons pe_str pa_nil))) pss_nil)
    (pss_one (ps_ret (pv 1))))), ?_⟩
  match ds, ln with
  | [d], _ =>
  match ws, f.length with
  | [v], _ =>
  have R := (f.nth 0 rfl rfl).rep
  have e : fnD .text [d] = match textD d with | some x => .ok (.str x) | none => .error "not a text" := rfl
  refine setS (at_list 0 rfl hA rfl ⟨v, d, rfl, R, wd.1, ?_⟩)
  cases g : textD d with
  | none =>
    rw [g] at e
    exact if_pureN (p := true) (fun Q q => ⟨_, rfl, rfl, _, rfl, q⟩) (fun _ => ⟨_, rfl, fun dd hd => (q2 _ e).now dd hd⟩) fun h => by cases h
  | some x =>
    rw [g] at e
    exact if_pureN (p := false) (fun Q q => ⟨_, rfl, rfl, _, rfl, q⟩) (fun h => by cases h) fun _ => ⟨_, rfl, q1 _ e _ _ (.refl _) (fresh_str _ _ _)⟩
abbrev s_get_from : Stmt := topS 41
theorem sc_get_from : FnScope ["arguments", "value", "place", "other"] ["arguments"] (defScope s_get_from) := ⟨rfl, rfl, rfl, by decide +kernel, rfl, by decide +kernel, by decide +kernel⟩
theorem cal_get_from (D : DefA K mg "get_from" s_get_from) (z : Nm mg) (T : FltTxt K mg C Vw fI cc cda) (c_has_place : Cal PP w K mg base (CX PP w) 2 "has_place" ["value", "place"] (spHas C)) : Cal PP w K mg base (CX PP w) 3 "get_from" ["arguments"] (spFn C .get) := by
  refine cal_mk D sc_get_from (fun _ _ _ _ _ _ us hl => match us, hl with | [_], _ => rfl) (fun vs H Q E h => ?_) (fun f cdv A outer s H vs Q E hr h => ?_)
  · obtain ⟨H0, A, ws, ds, rfl, _⟩ := h
    rfl
  obtain ⟨H0, A, ws, ds, rfl, hA, f, wd, ln, s0, q1, q2⟩ := h
  have hu := hu_of hr
  refine ⟨_, (pss_cons (ps_asg (pv 0) (pg_unl rfl (pgs_cons (pg_name (i := 1) sc_get_from.nd rfl (Or.inl rfl)) (pgs_cons (pg_name (i := 2) sc_get_from.nd rfl (Or.inl rfl)) (pgs_cons (pg_name (i := 3) sc_get_from.nd rfl (Or.inl rfl)) pgs_nil)))))
    (pss_cons (ps_if (PW.pt (pw_or (pt_cmpR op_isN (pv 1) pe_non (nomark _)) (pw_or1 (pt_not (pt_val (pe_calS c_has_place hr (by rfl) (fun σ => passAt (takes_of rfl rfl rfl rfl) σ) (pa_cons (pv 1) (pa_cons (pv 2) pa_nil)))))))) (pss_one (ps_ret (pv 3))) pss_nil)
    (pss_one (ps_ret (pe_or2 (pe_ix ix_seq (pv 1) (pv 2) (fun _ _ => rfl)) (pe_dget hu (pv 1) (pv 2) (fun _ _ => rfl))))))), ?_⟩
  match ds, ln with
  | [d, e, o], _ =>
  match ws, f.length with
  | [v, p, u], _ =>
  have R1 := f.nth 0 rfl rfl
  have R2 := f.nth 1 rfl rfl
  have R3 := f.nth 2 rfl rfl
  have eq : fnD .get [d, e, o] = getD' d e o := rfl
  rw [eq] at q1 q2
  unfold getD' at q1 q2
  refine asgS ⟨_, rfl, A, _, rfl, .inl (.inl hA), rfl, _, _, rfl, _, _, rfl, _, _, rfl, rfl, ?_⟩
  have n := R1.rep.isN
  by_cases hn : d.kd = .null
  · rw [if_pos hn] at q1
    refine if_pureN (p := true || false) (PureT.or (fun Q q => ⟨_, rfl, rfl, _, rfl, by rw [n, decide_eq_true hn]; exact q⟩) fun h => by cases h) (fun _ => ?_) fun h => by cases h
    exact ⟨_, rfl, q1 _ rfl _ _ (.refl _) R3⟩
  · rw [if_neg hn] at q1 q2
    refine ⟨_, rfl, rfl, _, rfl, ?_⟩
    rw [n, decide_eq_false hn]
    refine iteF ⟨_, rfl, _, rfl, v, p, d, e, rfl, R1.rep, R2.rep, wd.1, fun pl H' s => ⟨_, rfl, ?_⟩, fun pl => q2 _ (if_neg (by rw [pl]; exact Bool.false_ne_true))⟩
    rw [if_pos pl] at q1
    cases g : getAt d e with
    | none =>
      rw [g] at q1
      exact iteT ⟨_, rfl, q1 _ rfl _ _ s (R3.same s)⟩
    | some x =>
      rw [g] at q1
      exact iteF (at_ix rfl rfl (R1.same s) (R2.rep.mono (rds_of s)) wd.1 g fun u r => q1 _ rfl _ _ s r)
abbrev s_quotient : Stmt := topS 47
theorem sc_quotient : FnScope ["first", "second", "found"] ["first", "second"] (defScope s_quotient) := ⟨rfl, rfl, rfl, by decide +kernel, rfl, by decide +kernel, by decide +kernel⟩
theorem cal_quotient (D : DefA K mg "quotient" s_quotient) (z : Nm mg) (T : FltTxt K mg C Vw fI cc cda) : Cal PP w K mg base (CX PP w) 2 "quotient" ["first", "second"] (spQuot C) := by
  refine cal_mk D sc_quotient (fun _ _ _ _ _ _ us hl => match us, hl with | [_, _], _ => rfl) (fun vs H Q E h => ?_) (fun f cdv A outer s H vs Q E hr h => ?_)
  · obtain ⟨i, j, rfl, _⟩ := h
    rfl
  obtain ⟨i, j, rfl, bi, bj, q1, q2⟩ := h
  refine ⟨_, (pss_cons (ps_if (pt_cmpR op_eq (pv 1) pe_int (nomark _)) (pss_one (ps_raiseF rfl rfl T hr (takes_of rfl rfl rfl rfl) (pa_cons pe_str pa_nil))) pss_nil)
    (pss_cons (ps_set (i := 2) sc_quotient.nd rfl (Or.inl rfl) (pe_op op_fdivW (pe_callB call_abs (by rfl) z.abs (by decide +kernel) (pa_cons (pv 0) pa_nil)) (pe_callB call_abs (by rfl) z.abs (by decide +kernel) (pa_cons (pv 1) pa_nil))))
    (pss_cons (ps_if (pt_cmpR op_ne (pe_cmpR op_lt (pv 0) pe_int (nomark _)) (pe_cmpR op_lt (pv 1) pe_int (nomark _)) (nomark _)) (pss_one (ps_ret (pe_un un_neg (pv 2)))) pss_nil)
    (pss_one (ps_ret (pv 2)))))), ?_⟩
  refine if_pureN (p := j == 0) (fun Q q => ⟨_, rfl, rfl, _, congrArg V.bl dec_int, q⟩) (fun h => ?_) fun h => ?_
  · exact ⟨_, rfl, fun dd hd => (q2 (by simpa using h)).now dd hd⟩
  · have hj : j ≠ 0 := by simpa using h
    have q1 := q1 hj
    have ea : ∀ i : Int, (if i < 0 then -i else i) = (i.natAbs : Int) := fun i => by split <;> omega
    refine setS ⟨_, rfl, i, rfl, _, rfl, j, rfl, ?_⟩
    rw [ea, ea]
    have hl := lt100 bj
    refine ⟨_, _, rfl, rfl, wide_div (b := 100) (by omega) (by rw [Int.natAbs_natCast]; exact hl) (by decide) (by decide), ?_⟩
    unfold quot at q1
    refine if_pureN (p := decide (i < 0) != decide (j < 0)) (fun Q q => ⟨_, rfl, _, _, rfl, rfl, _, rfl, _, _, rfl, rfl, rfl, _, rfl, ?_⟩) (fun h => ?_) fun h => ?_
    · rw [dec_bl]
      exact q
    · rw [if_pos h] at q1
      exact ⟨_, rfl, _, rfl, q1⟩
    · rw [if_neg (by rw [h]; exact Bool.false_ne_true)] at q1
      exact ⟨_, rfl, q1⟩
abbrev s_least_of : Stmt := topS 49
theorem sc_least_of : FnScope ["arguments"] ["arguments"] (defScope s_least_of) := ⟨rfl, rfl, rfl, by decide +kernel, rfl, by decide +kernel, by decide +kernel⟩
theorem cal_least_of (D : DefA K mg "least_of" s_least_of) (z : Nm mg) (T : FltTxt K mg C Vw fI cc cda) (c_need_number : Cal PP w K mg base (CX PP w) 2 "need_number" ["value"] (spNeed C .number "not a number")) : Cal PP w K mg base (CX PP w) 3 "least_of" ["arguments"] (spFn C .min) := by
  refine cal_mk D sc_least_of (fun _ _ _ _ _ _ us hl => match us, hl with | [_], _ => rfl) (fun vs H Q E h => ?_) (fun f cdv A outer s H vs Q E hr h => ?_)
  · obtain ⟨H0, A, ws, ds, rfl, _⟩ := h
    rfl
  obtain ⟨H0, A, ws, ds, rfl, hA, f, wd, ln, s0, q1, q2⟩ := h
  refine ⟨_, (pss_one (ps_ret (pe_callB (call_min2 rfl) (by rfl) z.min (by decide +kernel) (pa_cons (pe_calS c_need_number hr (by rfl) (fun σ => passAt (takes_of rfl rfl rfl rfl) σ) (pa_cons (pe_ix ix_list (pv 0) pe_int (fun _ _ => rfl)) pa_nil)) (pa_cons (pe_calS c_need_number hr (by rfl) (fun σ => passAt (takes_of rfl rfl rfl rfl) σ) (pa_cons (pe_ix ix_list (pv 0) pe_int (fun _ _ => rfl)) pa_nil)) pa_nil))))), ?_⟩
  match ds, ln with
  | [d, e], _ =>
  match ws, f.length with
  | [v, u], _ =>
  have R1 := (f.nth 0 rfl rfl).rep
  have R2 := (f.nth 1 rfl rfl).rep
  refine at_list 0 rfl hA rfl ⟨v, d, rfl, R1, fun k1 => ?_, fun k1 => q2 _ (by cases d <;> first | rfl | exact absurd rfl k1)⟩
  refine at_list 1 rfl hA rfl ⟨u, e, rfl, R2, fun k2 => ?_, fun k2 => q2 _ (by cases d <;> cases e <;> first | rfl | exact absurd rfl k2)⟩
  cases R1 with
  | int i =>
    cases R2 with
    | int j => exact ⟨i, j, rfl, q1 _ rfl _ _ (.refl _) (fresh_int _ _ _)⟩
    | _ => cases k2
  | _ => cases k1
abbrev s_greatest_of : Stmt := topS 50
theorem sc_greatest_of : FnScope ["arguments"] ["arguments"] (defScope s_greatest_of) := ⟨rfl, rfl, rfl, by decide +kernel, rfl, by decide +kernel, by decide +kernel⟩
theorem cal_greatest_of (D : DefA K mg "greatest_of" s_greatest_of) (z : Nm mg) (T : FltTxt K mg C Vw fI cc cda) (c_need_number : Cal PP w K mg base (CX PP w) 2 "need_number" ["value"] (spNeed C .number "not a number")) : Cal PP w K mg base (CX PP w) 3 "greatest_of" ["arguments"] (spFn C .max) := by
  refine cal_mk D sc_greatest_of (fun _ _ _ _ _ _ us hl => match us, hl with | [_], _ => rfl) (fun vs H Q E h => ?_) (fun f cdv A outer s H vs Q E hr h => ?_)
  · obtain ⟨H0, A, ws, ds, rfl, _⟩ := h
    rfl
  obtain ⟨H0, A, ws, ds, rfl, hA, f, wd, ln, s0, q1, q2⟩ := h
  refine ⟨_, (pss_one (ps_ret (pe_callB (call_maxA rfl) (by rfl) z.max (by decide +kernel) (pa_cons (pe_calS c_need_number hr (by rfl) (fun σ => passAt (takes_of rfl rfl rfl rfl) σ) (pa_cons (pe_ix ix_list (pv 0) pe_int (fun _ _ => rfl)) pa_nil)) (pa_cons (pe_calS c_need_number hr (by rfl) (fun σ => passAt (takes_of rfl rfl rfl rfl) σ) (pa_cons (pe_ix ix_list (pv 0) pe_int (fun _ _ => rfl)) pa_nil)) pa_nil))))), ?_⟩
  match ds, ln with
  | [d, e], _ =>
  match ws, f.length with
  | [v, u], _ =>
  have R1 := (f.nth 0 rfl rfl).rep
  have R2 := (f.nth 1 rfl rfl).rep
  refine at_list 0 rfl hA rfl ⟨v, d, rfl, R1, fun k1 => ?_, fun k1 => q2 _ (by cases d <;> first | rfl | exact absurd rfl k1)⟩
  refine at_list 1 rfl hA rfl ⟨u, e, rfl, R2, fun k2 => ?_, fun k2 => q2 _ (by cases d <;> cases e <;> first | rfl | exact absurd rfl k2)⟩
  cases R1 with
  | int i =>
    cases R2 with
    | int j => exact .inl ⟨i, j, rfl, q1 _ rfl _ _ (.refl _) (fresh_int _ _ _)⟩
    | _ => cases k2
  | _ => cases k1
abbrev s_keys_of : Stmt := topS 44
theorem sc_keys_of : FnScope ["arguments"] ["arguments"] (defScope s_keys_of) := ⟨rfl, rfl, rfl, by decide +kernel, rfl, by decide +kernel, by decide +kernel⟩
theorem cal_keys_of (D : DefA K mg "keys_of" s_keys_of) (z : Nm mg) (T : FltTxt K mg C Vw fI cc cda) (c_need_record : Cal PP w K mg base (CX PP w) 2 "need_record" ["value"] (spNeed C .record "not a record"))
    (c_bounded : Cal PP w K mg base (CX PP w) 25 "bounded" ["value"] (spBd C)) : Cal PP w K mg base (CX PP w) 26 "keys_of" ["arguments"] (spFn C .keys) := by
  have c_need_record := c_need_record.mono (show 2 ≤ 25 by decide)
  refine cal_mk D sc_keys_of (fun _ _ _ _ _ _ us hl => match us, hl with | [_], _ => rfl) (fun vs H Q E h => ?_) (fun f cdv A outer s H vs Q E hr h => ?_)
  · obtain ⟨H0, A, ws, ds, rfl, _⟩ := h
    rfl
  obtain ⟨H0, A, ws, ds, rfl, hA, f, wd, ln, s0, q1, q2⟩ := h
  refine ⟨_, (pss_one (ps_ret (pe_calS c_bounded hr (by rfl) (fun σ => passAt (takes_of rfl rfl rfl rfl) σ) (pa_cons (pe_callB (call_sortedD rfl) (by rfl) z.sorted (by decide +kernel) (pa_cons (pe_calS c_need_record hr (by rfl) (fun σ => passAt (takes_of rfl rfl rfl rfl) σ) (pa_cons (pe_ix ix_list (pv 0) pe_int (fun _ _ => rfl)) pa_nil)) pa_nil)) pa_nil)))), ?_⟩
  match ds, ln with
  | [d], _ =>
  match ws, f.length with
  | [v], _ =>
  have R1 := (f.nth 0 rfl rfl).rep
  have wd1 := wd.1
  refine at_list 0 rfl hA rfl ⟨v, d, rfl, R1, fun k1 => ?_, fun k1 => q2 _ (by cases d <;> first | rfl | exact absurd rfl k1)⟩
  cases R1 with
  | @rcd a kvs ks ds ha hk r =>
    have e : fnD .keys [Dat.rcd ks ds] = made (.lst ((srt ks).map Dat.str)) := rfl
    rw [e] at q1 q2
    refine ⟨a, kvs, ks, rfl, ha, hk, Nat.lt_of_le_of_lt wd1.2.2.1 (by decide), fun ys p hp hs hpn => ?_⟩
    rw [srt_eq hp hs] at q1 q2
    have ly : ys.length ≤ 5000 := by
      have := wd1.2.2.1
      rw [hp.length_eq]
      omega
    have own : Own (upd H p (.lst (ys.map V.str))) (.ref p) (.lst (ys.map Dat.str)) [p] := .lst upd_same (Owns_strs _ ys)
    have s1 := same_new hpn (.lst (ys.map V.str))
    refine ⟨.ref p, .lst (ys.map Dat.str), rfl, own.rep, ⟨by rw [List.length_map]; exact ly, WDL_strs fun y hy => (wd1.2.2.2.1 y (hp.mem_iff.mp hy)).1⟩, ?_, fun d' hd H' s' => ?_, fun m hm => (q2 m hm).later s1⟩
    · rw [Dat.dep]
      exact Nat.le_trans (Nat.succ_le_succ (depL_strs ys)) (by decide)
    · refine q1 d' hd _ _ (s1.trans s') ?_
      have e : d' = .lst (ys.map Dat.str) := made_ok hd
      rw [e]
      exact ⟨[p], own.same s', List.nodup_cons.mpr ⟨List.not_mem_nil, List.nodup_nil⟩, fun b hb => by rw [List.mem_singleton.mp hb]; exact s0.free hpn⟩
  | _ => cases k1
def Fn.py : Fn → Str
  | .length => "length_of" | .text => "text_from" | .get => "get_from" | .keys => "keys_of" | .min => "least_of" | .max => "greatest_of"
def spCall (C : Addr) : Sp := fun vs H Q E => ∃ fn H0 A ws ds, vs = [.str (Fn.s fn), .ref A] ∧ H A = some (.lst ws) ∧ Freshs H0 H ws ds ∧ WDL ds ∧ ds.length = fn.ar ∧ Same H0 H ∧ Res C H0 H Q E (fnD fn ds)
/-- the table of functions -/
def FnTab (K : PySem.W.Frag) (w : World) (mg : Str → Option Value) : Prop := ∃ a, mg "FUNCTIONS" = some (.ref a) ∧ ∀ fn f, mg (Fn.py fn) = some (.ref f) → KDct K w a fn.s (.ref f)
abbrev s_call_function : Stmt := topS 52
theorem sc_call_function : FnScope ["name", "arguments", "function"] ["name", "arguments"] (defScope s_call_function) := ⟨rfl, rfl, rfl, by decide +kernel, rfl, by decide +kernel, by decide +kernel⟩
theorem cal_call_function (D : DefA K mg "call_function" s_call_function) (FT : FnTab K w mg) (c1 : Cal PP w K mg base (CX PP w) 26 "length_of" ["arguments"] (spFn C .length)) (c2 : Cal PP w K mg base (CX PP w) 26 "text_from" ["arguments"] (spFn C .text))
    (c3 : Cal PP w K mg base (CX PP w) 26 "get_from" ["arguments"] (spFn C .get)) (c4 : Cal PP w K mg base (CX PP w) 26 "keys_of" ["arguments"] (spFn C .keys)) (c5 : Cal PP w K mg base (CX PP w) 26 "least_of" ["arguments"] (spFn C .min)) (c6 : Cal PP w K mg base (CX PP w) 26 "greatest_of" ["arguments"] (spFn C .max)) :
    Cal PP w K mg base (CX PP w) 27 "call_function" ["name", "arguments"] (spCall C) := by
  obtain ⟨a0, g_FUNCTIONS, tab⟩ := FT
  obtain ⟨f1, fd1, F_length_of, m1, k_length_of, b_length_of⟩ := c1
  obtain ⟨f2, fd2, F_text_from, m2, k_text_from, b_text_from⟩ := c2
  obtain ⟨f3, fd3, F_get_from, m3, k_get_from, b_get_from⟩ := c3
  obtain ⟨f4, fd4, F_keys_of, m4, k_keys_of, b_keys_of⟩ := c4
  obtain ⟨f5, fd5, F_least_of, m5, k_least_of, b_least_of⟩ := c5
  obtain ⟨f6, fd6, F_greatest_of, m6, k_greatest_of, b_greatest_of⟩ := c6
  refine cal_mk D sc_call_function (fun _ _ _ _ _ _ us hl => match us, hl with | [_, _], _ => rfl) (fun vs H Q E h => ?_) (fun f cdv A outer s H vs Q E hr h => ?_)
  · obtain ⟨fn, H0, A, ws, ds, rfl, _⟩ := h
    rfl
  obtain ⟨fn, H0, A, ws, ds, rfl, hA, f, wd, ln, s0, q⟩ := h
  refine ⟨_, (pss_cons (ps_set (i := 2) sc_call_function.nd rfl (Or.inl rfl) (pe_ix ix_kdict (pe_gr rfl g_FUNCTIONS) (pv 0) (fun _ _ => rfl)))
    (pss_one (ps_ret (pe_or2 (pe_callL F_length_of hr (i := 2) rfl (by first | exact Or.inl rfl | exact Or.inr (Or.inl rfl) | exact Or.inr (Or.inr rfl)) k_length_of b_length_of .nil (passA (takes_of rfl rfl rfl rfl)) (pa_cons (pv 1) pa_nil)) (pe_or2 (pe_callL F_text_from hr (i := 2) rfl (by first | exact Or.inl rfl | exact Or.inr (Or.inl rfl) | exact Or.inr (Or.inr rfl)) k_text_from b_text_from .nil (passA (takes_of rfl rfl rfl rfl)) (pa_cons (pv 1) pa_nil)) (pe_or2 (pe_callL F_get_from hr (i := 2) rfl (by first | exact Or.inl rfl | exact Or.inr (Or.inl rfl) | exact Or.inr (Or.inr rfl)) k_get_from b_get_from .nil (passA (takes_of rfl rfl rfl rfl)) (pa_cons (pv 1) pa_nil)) (pe_or2 (pe_callL F_keys_of hr (i := 2) rfl (by first | exact Or.inl rfl | exact Or.inr (Or.inl rfl) | exact Or.inr (Or.inr rfl)) k_keys_of b_keys_of .nil (passA (takes_of rfl rfl rfl rfl)) (pa_cons (pv 1) pa_nil)) (pe_or2 (pe_callL F_least_of hr (i := 2) rfl (by first | exact Or.inl rfl | exact Or.inr (Or.inl rfl) | exact Or.inr (Or.inr rfl)) k_least_of b_least_of .nil (passA (takes_of rfl rfl rfl rfl)) (pa_cons (pv 1) pa_nil)) (pe_callL F_greatest_of hr (i := 2) rfl (by first | exact Or.inl rfl | exact Or.inr (Or.inl rfl) | exact Or.inr (Or.inr rfl)) k_greatest_of b_greatest_of .nil (passA (takes_of rfl rfl rfl rfl)) (pa_cons (pv 1) pa_nil)))))))))), ?_⟩
  cases fn with
  | length => exact ⟨_, rfl, a0, _, _, rfl, rfl, tab .length f1 m1, .inl ⟨rfl, _, rfl, H0, A, ws, ds, rfl, hA, f, wd, ln, s0, q⟩⟩
  | text => exact ⟨_, rfl, a0, _, _, rfl, rfl, tab .text f2 m2, .inr (.inl ⟨rfl, _, rfl, H0, A, ws, ds, rfl, hA, f, wd, ln, s0, q⟩)⟩
  | get => exact ⟨_, rfl, a0, _, _, rfl, rfl, tab .get f3 m3, .inr (.inr (.inl ⟨rfl, _, rfl, H0, A, ws, ds, rfl, hA, f, wd, ln, s0, q⟩))⟩
  | keys => exact ⟨_, rfl, a0, _, _, rfl, rfl, tab .keys f4 m4, .inr (.inr (.inr (.inl ⟨rfl, _, rfl, H0, A, ws, ds, rfl, hA, f, wd, ln, s0, q⟩)))⟩
  | min => exact ⟨_, rfl, a0, _, _, rfl, rfl, tab .min f5 m5, .inr (.inr (.inr (.inr (.inl ⟨rfl, _, rfl, H0, A, ws, ds, rfl, hA, f, wd, ln, s0, q⟩))))⟩
  | max => exact ⟨_, rfl, a0, _, _, rfl, rfl, tab .max f6 m6, .inr (.inr (.inr (.inr (.inr ⟨rfl, _, rfl, H0, A, ws, ds, rfl, hA, f, wd, ln, s0, q⟩))))⟩
end
end Vk
set_option maxHeartbeats 4000000
/-! operators -/
namespace Vk
open PySem PySem.Spec PyProof.Rows L2
/-- two values of one's own, one sign -/
def spTwo (C : Addr) (f : Dat → Dat → Rs) : Sp := fun vs H Q E => ∃ H0 v u d e, vs = [v, u] ∧ Freshs H0 H [v, u] [d, e] ∧ Bd d ∧ Bd e ∧ Same H0 H ∧ Res C H0 H Q E (f d e)
def spSgn (C : Addr) (p : Sg → Bool) (f : Sg → Dat → Dat → Rs) : Sp := fun vs H Q E => ∃ s H0 v u d e, vs = [.str (Sg.s s), v, u] ∧ p s = true ∧ Freshs H0 H [v, u] [d, e] ∧ Bd d ∧ Bd e ∧ Same H0 H ∧ Res C H0 H Q E (f s d e)
def isCalc : Sg → Bool
  | .sub => true | .mul => true | .div => true | _ => false
def isCmp : Sg → Bool
  | .lt => true | .le => true | .gt => true | .ge => true | _ => false
def isOp : Sg → Bool
  | .and => false | .or => false | _ => true
theorem sg_dec (a b : Sg) : decide (V.str a.s = V.str b.s) = decide (a = b) := by cases a <;> cases b <;> decide +kernel
section
variable {t u r : TS} {D : Ends} {σ : L2.St} {H : Hp} {i : Nat} {s : Sg}
/-- if sign == '..' -/
theorem ifsN (sx : Sg) (hs : σ[i]? = some (some (.str s.s))) (a : s = sx → t { D with nx := r D } σ H) (b : s ≠ sx → r D σ H) : tSeq (tIfS (tTest (tOp rEq (tVar i) (tC (.str sx.s)))) t tNext) r D σ H :=
  if_pureN (p := decide (s = sx)) (fun Q q => ⟨_, hs, rfl, _, congrArg V.bl (sg_dec s sx), q⟩) (fun h => a (of_decide_eq_true h)) fun h => b (of_decide_eq_false h)
end
theorem lst_len {ds : List Dat} (h : Bd (.lst ds)) : ds.length ≤ 2000 := by
  have l : ∀ ds : List Dat, ds.length ≤ szL ds := by
    intro ds
    induction ds with
    | nil => exact Nat.zero_le _
    | cons d r ih =>
      have h1 : 1 ≤ d.sz := by rw [sz_of]; omega
      show r.length + 1 ≤ d.sz + szL r
      omega
  have h2 := h.sz
  rw [Dat.sz] at h2
  have := l ds
  omega
theorem str_len {x : Str} (h : Bd (.str x)) : x.length ≤ 2000 := by
  have h2 := h.sz
  rw [Dat.sz] at h2
  omega
theorem WDL_app : ∀ {a b : List Dat}, WDL a → WDL b → WDL (a ++ b)
  | [], _, _, h => h
  | _ :: _, _, h, g => ⟨h.1, WDL_app h.2 g⟩
theorem depL_app : ∀ (a b : List Dat), depL (a ++ b) = max (depL a) (depL b)
  | [], b => (Nat.zero_max _).symm
  | x :: a, b => by
    show max x.dep (depL (a ++ b)) = max (max x.dep (depL a)) (depL b)
    rw [depL_app a b, Nat.max_assoc]
theorem text_len {d : Dat} (h : Bd d) {x : Str} (e : textD d = some x) : x.length ≤ 2000 := by
  cases d with
  | non => cases e; decide
  | bl b => cases e; cases b <;> decide
  | int i =>
    have wd := h.wd
    have hb : big30 = 1000000000000000000000000000000 := rfl
    rw [Dat.WD, hb] at wd
    cases e
    have h1 : i.natAbs < 10 ^ 31 := by
      have : (10 : Nat) ^ 31 = 10000000000000000000000000000000 := by decide
      omega
    have h2 := PySem.int_text_length_le10 (by decide) h1
    have h3 : (Str.ofString (toString i)).length = (toString i).length := PySem.ofString_length _
    rw [h3]
    exact Nat.le_trans h2 (by decide)
  | str y => cases e; exact str_len h
  | _ => cases e
section
variable {w : World} {K : PySem.W.Frag} {mg : Str → Option Value} {base : Heap} {n k : Nat} {C Vw fI cc cda : Addr}
abbrev s_add : Stmt := topS 54
theorem sc_add : FnScope ["first", "second", "kinds", "left", "right"] ["first", "second"] (defScope s_add) := ⟨rfl, rfl, rfl, by decide +kernel, rfl, by decide +kernel, by decide +kernel⟩
theorem cal_add (D : DefA K mg "add" s_add) (z : Nm mg) (T : FltTxt K mg C Vw fI cc cda) (c_kind_of_value : Cal PP w K mg base CX0 1 "kind_of_value" ["value"] spKind) (c_text_of : Cal PP w K mg base CX0 2 "text_of" ["value"] spText)
    (c_bounded_number : Cal PP w K mg base (CX PP w) 2 "bounded_number" ["number"] (spBN C)) (c_bounded_text : Cal PP w K mg base (CX PP w) 2 "bounded_text" ["text"] (spBT C)) (c_bounded : Cal PP w K mg base (CX PP w) 25 "bounded" ["value"] (spBd C)) :
    Cal PP w K mg base (CX PP w) 26 "add" ["first", "second"] (spTwo C addD) := by
  have c_kind_of_value := c_kind_of_value.mono (show 1 ≤ 25 by decide)
  have c_text_of := c_text_of.mono (show 2 ≤ 25 by decide)
  have c_bounded_number := c_bounded_number.mono (show 2 ≤ 25 by decide)
  have c_bounded_text := c_bounded_text.mono (show 2 ≤ 25 by decide)
  refine cal_mk D sc_add (fun _ _ _ _ _ _ us hl => match us, hl with | [_, _], _ => rfl) (fun vs H Q E h => ?_) (fun f cdv A outer s H vs Q E hr h => ?_)
  · obtain ⟨H0, v, u, d, e, rfl, _⟩ := h
    rfl
  obtain ⟨H0, v, u, d, e, rfl, f, b1, b2, s0, q1, q2⟩ := h
  have R1 := f.nth 0 rfl rfl
  have R2 := f.nth 1 rfl rfl
  refine ⟨_, (pss_cons (ps_set (i := 2) sc_add.nd rfl (Or.inl rfl) (pe_tup (pa_cons (pe_cal c_kind_of_value hr (by rfl) (pa_cons (pv 0) pa_nil)) (pa_cons (pe_cal c_kind_of_value hr (by rfl) (pa_cons (pv 1) pa_nil)) pa_nil))))
    (pss_cons (ps_if (pt_cmpR (op_eqD hr.units) (pv 2) (pe_tup (pa_cons pe_str (pa_cons pe_str pa_nil))) (nomark _)) (pss_one (ps_ret (pe_calS c_bounded_number hr (by rfl) (fun σ => passAt (takes_of rfl rfl rfl rfl) σ) (pa_cons (pe_op op_addA (pv 0) (pv 1)) pa_nil)))) pss_nil)
    (pss_cons (ps_if (pt_cmpR (op_eqD hr.units) (pv 2) (pe_tup (pa_cons pe_str (pa_cons pe_str pa_nil))) (nomark _)) (pss_one (ps_ret (pe_calS c_bounded hr (by rfl) (fun σ => passAt (takes_of rfl rfl rfl rfl) σ) (pa_cons (pe_op op_addA (pv 0) (pv 1)) pa_nil)))) pss_nil)
    (pss_cons (ps_if (pt_cmpR op_notIn_seq pe_str (pv 2) rfl) (pss_one (ps_raiseF rfl rfl T hr (takes_of rfl rfl rfl rfl) (pa_cons pe_str pa_nil))) pss_nil)
    (pss_cons (ps_set (i := 3) sc_add.nd rfl (Or.inl rfl) (pe_cal c_text_of hr (by rfl) (pa_cons (pv 0) pa_nil)))
    (pss_cons (ps_set (i := 4) sc_add.nd rfl (Or.inl rfl) (pe_cal c_text_of hr (by rfl) (pa_cons (pv 1) pa_nil)))
    (pss_cons (ps_if (PW.pt (pw_or (pt_cmpR op_isN (pv 3) pe_non (nomark _)) (pw_or1 (pt_cmpR op_isN (pv 4) pe_non (nomark _))))) (pss_one (ps_raiseF rfl rfl T hr (takes_of rfl rfl rfl rfl) (pa_cons pe_str pa_nil))) pss_nil)
    (pss_one (ps_ret (pe_calS c_bounded_text hr (by rfl) (fun σ => passAt (takes_of rfl rfl rfl rfl) σ) (pa_cons (pe_op op_add_str (pv 3) (pv 4)) pa_nil))))))))))), ?_⟩
  refine kpair rfl R1.rep rfl R2.rep fun t ht => ?_
  have s1 := same_new ht (.tup [.str d.kd.s, .str e.kd.s])
  refine if_tstN (pair_eq .number .number rfl upd_same) (fun h H1 s2 => ?_) fun n1 H1 s2 => ?_
  · rw [Bool.and_eq_true] at h
    have h1 := of_decide_eq_true h.1
    have h2 := of_decide_eq_true h.2
    have sE := s1.trans s2
    cases R1.rep with
    | int i =>
      cases R2.rep with
      | int j =>
        have eq : addD (.int i) (.int j) = boundN (i + j) := rfl
        rw [eq] at q1 q2
        refine ⟨_, rfl, _, rfl, .inl ⟨_, _, rfl, rfl, i + j, rfl, fun d' hd H' s' => ?_, fun m hm => (q2 m hm).later sE⟩⟩
        have e' : d' = .int (i + j) := by unfold boundN at hd; split at hd <;> cases hd; rfl
        exact q1 d' hd _ _ (sE.trans s') (e' ▸ fresh_int _ _ _)
      | _ => cases h2
    | _ => cases h1
  · refine if_tstN (pair_eq .list .list rfl (s2 _ _ upd_same)) (fun h H2 s3 => ?_) fun n2 H2 s3 => ?_
    · rw [Bool.and_eq_true] at h
      have h1 := of_decide_eq_true h.1
      have h2 := of_decide_eq_true h.2
      have sE := (s1.trans s2).trans s3
      cases d with
      | lst ds =>
        cases e with
        | lst es =>
          have eq : addD (.lst ds) (.lst es) = made (.lst (ds ++ es)) := rfl
          rw [eq] at q1 q2
          have l1 := lst_len b1
          have l2 := lst_len b2
          have wd1 := b1.wd
          have wd2 := b2.wd
          have dp1 := b1.dep
          have dp2 := b2.dep
          rw [Dat.dep] at dp1 dp2
          obtain ⟨F, ow, nd, zz⟩ := f
          cases ow with
          | cons o1 o2 =>
            cases o2 with
            | cons o2 o3 =>
              cases o3
              cases o1 with
              | @lst a vs _ F1 ha r1 =>
                cases o2 with
                | @lst b us _ F2 hb r2 =>
                  have ll1 := r1.rep.length
                  have ll2 := r2.rep.length
                  refine ⟨_, rfl, _, rfl, .inr (.inl ⟨a, b, vs, us, rfl, rfl, sE _ _ ha, sE _ _ hb, small5 (by omega), fun p hp => ?_⟩)⟩
                  have sN := sE.trans (same_new hp (.lst (vs ++ us)))
                  have own : Owns (upd H2 p (.lst (vs ++ us))) (vs ++ us) (ds ++ es) (F1 ++ F2) := (r1.same sN).app (r2.same sN)
                  refine ⟨.ref p, .lst (ds ++ es), rfl, .lst upd_same own.rep, ⟨by rw [List.length_append]; omega, WDL_app wd1.2 wd2.2⟩, ?_, fun d' hd H' s' => ?_, fun m hm => (q2 m hm).later sN⟩
                  · rw [Dat.dep, depL_app]
                    omega
                  · refine q1 d' hd _ _ (sN.trans s') ?_
                    have e' : d' = .lst (ds ++ es) := made_ok hd
                    rw [e']
                    have pn : H p = none := sE.free hp
                    have inF : ∀ x, x ∈ F1 ++ F2 → x ∈ a :: F1 ++ (b :: F2 ++ []) := fun x hx => by
                      rcases List.mem_append.mp hx with hx | hx
                      · exact List.mem_append_left _ (List.mem_cons_of_mem _ hx)
                      · exact List.mem_append_right _ (List.mem_append_left _ (List.mem_cons_of_mem _ hx))
                    refine ⟨p :: (F1 ++ F2), .lst (s' _ _ upd_same) (own.same s'), List.nodup_cons.mpr ⟨fun m => ?_, ?_⟩, fun x hx => ?_⟩
                    · obtain ⟨o, ho⟩ := (r1.app r2).there p m
                      rw [pn] at ho
                      cases ho
                    · rw [List.append_nil] at nd
                      exact nd.sublist ((List.sublist_cons_self _ _).append (List.sublist_cons_self _ _))
                    · rcases List.mem_cons.mp hx with hx | hx
                      · rw [hx]; exact s0.free pn
                      · exact zz x (inF x hx)
        | _ => cases h2
      | _ => cases h1
    · have sE := (s1.trans s2).trans s3
      have hk2 := s3 _ _ (s2 _ _ (upd_same (H := H) (a := t) (o := .tup [.str d.kd.s, .str e.kd.s])))
      have eq : addD d e = if d.kd = .text ∨ e.kd = .text then (match textD d, textD e with | some x, some y => boundT (x ++ y) | _, _ => .error "not a text") else .error "not to be added" := by
        cases d <;> cases e <;> first | rfl | (simp [Dat.kd] at n1; done) | (simp [Dat.kd] at n2; done)
      rw [eq] at q1 q2
      have em : decide (("text" : Str) ∈ [d.kd.s, e.kd.s]) = decide (d.kd = .text ∨ e.kd = .text) := by
        generalize d.kd = a
        generalize e.kd = b
        cases a <;> cases b <;> decide +kernel
      refine if_pureN (p := !decide (d.kd = .text ∨ e.kd = .text)) (fun Q q => ⟨_, rfl, t, [d.kd.s, e.kd.s].map V.str, rfl, .inr (.inl (.inl hk2)), rfl, flat_strs _, _, rfl, ?_⟩) (fun h => ?_) fun h => ?_
      · rw [if_pos rfl, inV_strs, em]
        exact q
      · have h : decide (d.kd = .text ∨ e.kd = .text) = false := by
          cases hq : decide (d.kd = .text ∨ e.kd = .text) with
          | false => rfl
          | true => rw [hq] at h; cases h
        rw [if_neg (of_decide_eq_false h)] at q2
        exact ⟨_, rfl, fun dd hd => ((q2 _ rfl).later sE).now dd hd⟩
      · have h : decide (d.kd = .text ∨ e.kd = .text) = true := by
          cases hq : decide (d.kd = .text ∨ e.kd = .text) with
          | true => rfl
          | false => rw [hq] at h; cases h
        rw [if_pos (of_decide_eq_true h)] at q1 q2
        refine setS ⟨_, rfl, v, d, rfl, R1.rep.mono (rds_of sE), b1.wd, setS ⟨_, rfl, u, e, rfl, R2.rep.mono (rds_of sE), b2.wd, ?_⟩⟩
        cases g1 : textD d with
        | none =>
          rw [g1] at q2
          exact if_pureN (p := true || false) (PureT.or (fun Q q => ⟨_, rfl, rfl, _, rfl, q⟩) fun h => by cases h) (fun _ => ⟨_, rfl, fun dd hd => ((q2 _ rfl).later sE).now dd hd⟩) fun h => by cases h
        | some x =>
          cases g2 : textD e with
          | none =>
            rw [g1, g2] at q2
            exact if_pureN (p := false || true) (PureT.or (fun Q q => ⟨_, rfl, rfl, _, rfl, q⟩) fun _ Q q => ⟨_, rfl, rfl, _, rfl, q⟩) (fun _ => ⟨_, rfl, fun dd hd => ((q2 _ rfl).later sE).now dd hd⟩) fun h => by cases h
          | some y =>
            rw [g1, g2] at q1 q2
            have l1 := text_len b1 g1
            have l2 := text_len b2 g2
            have la : (x ++ y).length = x.length + y.length := Str.length_append x y
            refine if_pureN (p := false || false) (PureT.or (fun Q q => ⟨_, rfl, rfl, _, rfl, q⟩) fun _ Q q => ⟨_, rfl, rfl, _, rfl, q⟩) (fun h => by cases h) fun _ => ?_
            refine ⟨_, rfl, _, rfl, x, y, rfl, rfl, small5 (by omega), x ++ y, rfl, by omega, fun d' hd H' s' => ?_, fun m hm => (q2 m hm).later sE⟩
            have e' : d' = .str (x ++ y) := by
              have hd : boundT (x ++ y) = .ok d' := hd
              unfold boundT at hd
              split at hd <;> cases hd
              rfl
            exact q1 d' hd _ _ (sE.trans s') (e' ▸ fresh_str _ _ _)
abbrev s_calculate : Stmt := topS 55
theorem sc_calculate : FnScope ["sign", "first", "second", "left", "right"] ["sign", "first", "second"] (defScope s_calculate) := ⟨rfl, rfl, rfl, by decide +kernel, rfl, by decide +kernel, by decide +kernel⟩
theorem cal_calculate (D : DefA K mg "calculate" s_calculate) (z : Nm mg) (T : FltTxt K mg C Vw fI cc cda) (c_need_number : Cal PP w K mg base (CX PP w) 2 "need_number" ["value"] (spNeed C .number "not a number"))
    (c_bounded_number : Cal PP w K mg base (CX PP w) 2 "bounded_number" ["number"] (spBN C)) (c_quotient : Cal PP w K mg base (CX PP w) 2 "quotient" ["first", "second"] (spQuot C)) :
    Cal PP w K mg base (CX PP w) 3 "calculate" ["sign", "first", "second"] (spSgn C isCalc calcD) := by
  refine cal_mk D sc_calculate (fun _ _ _ _ _ _ us hl => match us, hl with | [_, _, _], _ => rfl) (fun vs H Q E h => ?_) (fun f cdv A outer s H vs Q E hr h => ?_)
  · obtain ⟨sg, H0, v, u, d, e, rfl, _⟩ := h
    rfl
  obtain ⟨sg, H0, v, u, d, e, rfl, hs, f, b1, b2, s0, q1, q2⟩ := h
  have R1 := (f.nth 0 rfl rfl).rep
  have R2 := (f.nth 1 rfl rfl).rep
  refine ⟨_, (pss_cons (ps_set (i := 3) sc_calculate.nd rfl (Or.inl rfl) (pe_calS c_need_number hr (by rfl) (fun σ => passAt (takes_of rfl rfl rfl rfl) σ) (pa_cons (pv 1) pa_nil)))
    (pss_cons (ps_set (i := 4) sc_calculate.nd rfl (Or.inl rfl) (pe_calS c_need_number hr (by rfl) (fun σ => passAt (takes_of rfl rfl rfl rfl) σ) (pa_cons (pv 2) pa_nil)))
    (pss_cons (ps_if (pt_cmpR op_eq (pv 0) pe_str (nomark _)) (pss_one (ps_ret (pe_calS c_bounded_number hr (by rfl) (fun σ => passAt (takes_of rfl rfl rfl rfl) σ) (pa_cons (pe_op op_sub (pv 3) (pv 4)) pa_nil)))) pss_nil)
    (pss_cons (ps_if (pt_cmpR op_eq (pv 0) pe_str (nomark _)) (pss_one (ps_ret (pe_calS c_bounded_number hr (by rfl) (fun σ => passAt (takes_of rfl rfl rfl rfl) σ) (pa_cons (pe_op op_mulW (pv 3) (pv 4)) pa_nil)))) pss_nil)
    (pss_one (ps_ret (pe_calS c_bounded_number hr (by rfl) (fun σ => passAt (takes_of rfl rfl rfl rfl) σ) (pa_cons (pe_calS c_quotient hr (by rfl) (fun σ => passAt (takes_of rfl rfl rfl rfl) σ) (pa_cons (pv 3) (pa_cons (pv 4) pa_nil))) pa_nil)))))))), ?_⟩
  refine setS ⟨_, rfl, v, d, rfl, R1, fun k1 => setS ⟨_, rfl, u, e, rfl, R2, fun k2 => ?_, fun k2 => q2 _ (by cases d <;> cases e <;> first | rfl | exact absurd rfl k2)⟩, fun k1 => q2 _ (by cases d <;> first | rfl | exact absurd rfl k1)⟩
  cases R1 with
  | int i =>
    cases R2 with
    | int j =>
      have bi := b1.wd
      have bj := b2.wd
      rw [Dat.WD] at bi bj
      have back : ∀ n : Int, calcD sg (.int i) (.int j) = boundN n → ∃ i, [V.int n] = [.int i] ∧ Back C H Q E (.int i) (boundN i) := fun n en => ⟨n, rfl, fun d' hd H' s' => by
        have e' : d' = .int n := by unfold boundN at hd; split at hd <;> cases hd; rfl
        exact q1 d' (en.trans hd) _ _ s' (e' ▸ fresh_int _ _ _), fun m hm => q2 m (en.trans hm)⟩
      refine ifsN .sub rfl (fun h => ?_) fun n1 => ifsN .mul rfl (fun h => ?_) fun n2 => ?_
      · subst h
        exact ⟨_, rfl, _, rfl, _, _, rfl, rfl, back (i - j) rfl⟩
      · subst h
        exact ⟨_, rfl, _, rfl, _, _, rfl, rfl, wide_mul (lt100 bi) (lt100 bj) (by decide) (by decide) (by decide), back (i * j) rfl⟩
      · have e1 : calcD sg (.int i) (.int j) = if j = 0 then .error "division by 0" else boundN (quot i j) := by
          cases sg <;> first | rfl | exact absurd rfl n1 | exact absurd rfl n2
        refine ⟨_, rfl, _, rfl, i, j, rfl, bi, bj, fun hj => ?_, fun hj => q2 _ (e1.trans (if_pos hj))⟩
        exact back (quot i j) (e1.trans (if_neg hj))
    | _ => cases k2
  | _ => cases k1
abbrev s_compare : Stmt := topS 56
theorem sc_compare : FnScope ["sign", "first", "second", "kinds"] ["sign", "first", "second"] (defScope s_compare) := ⟨rfl, rfl, rfl, by decide +kernel, rfl, by decide +kernel, by decide +kernel⟩
theorem cal_compare (D : DefA K mg "compare" s_compare) (z : Nm mg) (T : FltTxt K mg C Vw fI cc cda) (c_kind_of_value : Cal PP w K mg base CX0 1 "kind_of_value" ["value"] spKind) :
    Cal PP w K mg base (CX PP w) 2 "compare" ["sign", "first", "second"] (spSgn C isCmp cmpD) := by
  refine cal_mk D sc_compare (fun _ _ _ _ _ _ us hl => match us, hl with | [_, _, _], _ => rfl) (fun vs H Q E h => ?_) (fun f cdv A outer s H vs Q E hr h => ?_)
  · obtain ⟨sg, H0, v, u, d, e, rfl, _⟩ := h
    rfl
  obtain ⟨sg, H0, v, u, d, e, rfl, hs, f, b1, b2, s0, q1, q2⟩ := h
  have R1 := (f.nth 0 rfl rfl).rep
  have R2 := (f.nth 1 rfl rfl).rep
  refine ⟨_, (pss_cons (ps_set (i := 3) sc_compare.nd rfl (Or.inl rfl) (pe_tup (pa_cons (pe_cal c_kind_of_value hr (by rfl) (pa_cons (pv 1) pa_nil)) (pa_cons (pe_cal c_kind_of_value hr (by rfl) (pa_cons (pv 2) pa_nil)) pa_nil))))
    (pss_cons (ps_if (PW.pt (pw_and (pt_cmpR (op_neD hr.units) (pv 3) (pe_tup (pa_cons pe_str (pa_cons pe_str pa_nil))) (nomark _)) (pw_and1 (pt_cmpR (op_neD hr.units) (pv 3) (pe_tup (pa_cons pe_str (pa_cons pe_str pa_nil))) (nomark _))))) (pss_one (ps_raiseF rfl rfl T hr (takes_of rfl rfl rfl rfl) (pa_cons pe_str pa_nil))) pss_nil)
    (pss_cons (ps_if (pt_cmpR op_eq (pv 0) pe_str (nomark _)) (pss_one (ps_ret (pe_cmpR op_ltA (pv 1) (pv 2) (nomark _)))) pss_nil)
    (pss_cons (ps_if (pt_cmpR op_eq (pv 0) pe_str (nomark _)) (pss_one (ps_ret (pe_cmpR op_leA (pv 1) (pv 2) (nomark _)))) pss_nil)
    (pss_cons (ps_if (pt_cmpR op_eq (pv 0) pe_str (nomark _)) (pss_one (ps_ret (pe_cmpR op_gtA (pv 1) (pv 2) (nomark _)))) pss_nil)
    (pss_one (ps_ret (pe_cmpR op_geA (pv 1) (pv 2) (nomark _))))))))), ?_⟩
  refine kpair rfl R1 rfl R2 fun t ht => ?_
  have s1 := same_new ht (.tup [.str d.kd.s, .str e.kd.s])
  refine if_tstN ((pair_ne .number .number rfl upd_same).and fun _ H2 s3 => pair_ne .text .text rfl (s3 _ _ upd_same)) (fun h H1 s2 => ?_) fun h H1 s2 => ?_
  · have e1 : cmpD sg d e = .error "not to be compared" := by
      cases d <;> cases e <;> first | rfl | (simp [Dat.kd] at h; done)
    exact ⟨_, rfl, fun dd hd => ((q2 _ e1).later (s1.trans s2)).now dd hd⟩
  · have sE := s1.trans s2
    cases R1 with
    | int i =>
      cases R2 with
      | int j =>
        refine ifsN .lt rfl (fun h => ?_) fun n1 => ifsN .le rfl (fun h => ?_) fun n2 => ifsN .gt rfl (fun h => ?_) fun n3 => ?_
        · subst h
          exact ⟨_, rfl, _, rfl, .inl ⟨i, j, rfl, rfl, q1 _ rfl _ _ sE (fresh_bl _ _ _)⟩⟩
        · subst h
          exact ⟨_, rfl, _, rfl, .inl ⟨i, j, rfl, rfl, q1 _ rfl _ _ sE (fresh_bl _ _ _)⟩⟩
        · subst h
          exact ⟨_, rfl, _, rfl, .inl ⟨i, j, rfl, rfl, q1 _ rfl _ _ sE (fresh_bl _ _ _)⟩⟩
        · have e1 : cmpD sg (.int i) (.int j) = .ok (.bl (decide (j ≤ i))) := by
            cases sg <;> first | rfl | exact absurd rfl n1 | exact absurd rfl n2 | exact absurd rfl n3
          exact ⟨_, rfl, _, rfl, .inl ⟨i, j, rfl, rfl, q1 _ e1 _ _ sE (fresh_bl _ _ _)⟩⟩
      | _ => cases h
    | str i =>
      cases R2 with
      | str j =>
        refine ifsN .lt rfl (fun h => ?_) fun n1 => ifsN .le rfl (fun h => ?_) fun n2 => ifsN .gt rfl (fun h => ?_) fun n3 => ?_
        · subst h
          exact ⟨_, rfl, _, rfl, .inr ⟨i, j, rfl, rfl, q1 _ rfl _ _ sE (fresh_bl _ _ _)⟩⟩
        · subst h
          exact ⟨_, rfl, _, rfl, .inr ⟨i, j, rfl, rfl, q1 _ rfl _ _ sE (fresh_bl _ _ _)⟩⟩
        · subst h
          exact ⟨_, rfl, _, rfl, .inr ⟨i, j, rfl, rfl, q1 _ rfl _ _ sE (fresh_bl _ _ _)⟩⟩
        · have e1 : cmpD sg (.str i) (.str j) = .ok (.bl (!decide (i.cps.toList < j.cps.toList))) := by
            cases sg <;> first | rfl | exact absurd rfl n1 | exact absurd rfl n2 | exact absurd rfl n3
          exact ⟨_, rfl, _, rfl, .inr ⟨i, j, rfl, rfl, q1 _ e1 _ _ sE (fresh_bl _ _ _)⟩⟩
      | _ => cases h
    | _ => cases R2 <;> cases h
theorem mem_calc (s : Sg) : decide (s.s ∈ [("-" : Str), "*", "/"]) = isCalc s := by cases s <;> decide +kernel
abbrev s_operate : Stmt := topS 57
theorem sc_operate : FnScope ["sign", "first", "second"] ["sign", "first", "second"] (defScope s_operate) := ⟨rfl, rfl, rfl, by decide +kernel, rfl, by decide +kernel, by decide +kernel⟩
theorem cal_operate (D : DefA K mg "operate" s_operate) (z : Nm mg) (c_add : Cal PP w K mg base (CX PP w) 26 "add" ["first", "second"] (spTwo C addD)) (c_calculate : Cal PP w K mg base (CX PP w) 3 "calculate" ["sign", "first", "second"] (spSgn C isCalc calcD))
    (c_compare : Cal PP w K mg base (CX PP w) 2 "compare" ["sign", "first", "second"] (spSgn C isCmp cmpD)) (c_same : Cal PP w K mg base CX0 40 "same" ["first", "second"] (spSame 20)) :
    Cal PP w K mg base (CX PP w) 41 "operate" ["sign", "first", "second"] (spSgn C isOp oper) := by
  have c_add := c_add.mono (show 26 ≤ 40 by decide)
  have c_calculate := c_calculate.mono (show 3 ≤ 40 by decide)
  have c_compare := c_compare.mono (show 2 ≤ 40 by decide)
  refine cal_mk D sc_operate (fun _ _ _ _ _ _ us hl => match us, hl with | [_, _, _], _ => rfl) (fun vs H Q E h => ?_) (fun f cdv A outer s H vs Q E hr h => ?_)
  · obtain ⟨sg, H0, v, u, d, e, rfl, _⟩ := h
    rfl
  obtain ⟨sg, H0, v, u, d, e, rfl, hs, f, b1, b2, s0, q⟩ := h
  have R1 := (f.nth 0 rfl rfl).rep
  have R2 := (f.nth 1 rfl rfl).rep
  refine ⟨_, (pss_cons (ps_if (pt_cmpR op_eq (pv 0) pe_str (nomark _)) (pss_one (ps_ret (pe_calS c_add hr (by rfl) (fun σ => passAt (takes_of rfl rfl rfl rfl) σ) (pa_cons (pv 1) (pa_cons (pv 2) pa_nil))))) pss_nil)
    (pss_cons (ps_if (pt_cmpR op_in_seq (pv 0) (pe_tup (pa_cons pe_str (pa_cons pe_str (pa_cons pe_str pa_nil)))) rfl) (pss_one (ps_ret (pe_calS c_calculate hr (by rfl) (fun σ => passAt (takes_of rfl rfl rfl rfl) σ) (pa_cons (pv 0) (pa_cons (pv 1) (pa_cons (pv 2) pa_nil)))))) pss_nil)
    (pss_cons (ps_if (pt_cmpR op_eq (pv 0) pe_str (nomark _)) (pss_one (ps_ret (pe_cal c_same hr (by rfl) (pa_cons (pv 1) (pa_cons (pv 2) pa_nil))))) pss_nil)
    (pss_cons (ps_if (pt_cmpR op_eq (pv 0) pe_str (nomark _)) (pss_one (ps_ret (pe_not (pe_cal c_same hr (by rfl) (pa_cons (pv 1) (pa_cons (pv 2) pa_nil)))))) pss_nil)
    (pss_one (ps_ret (pe_calS c_compare hr (by rfl) (fun σ => passAt (takes_of rfl rfl rfl rfl) σ) (pa_cons (pv 0) (pa_cons (pv 1) (pa_cons (pv 2) pa_nil)))))))))), ?_⟩
  refine ifsN .add rfl (fun h => ?_) fun n1 => if_tstN (tin3 "-" "*" "/" fun Q q => ⟨_, rfl, q⟩) (fun h H1 s1 => ?_) fun h H1 s1 => ifsN .eq rfl (fun h => ?_) fun n3 => ifsN .ne rfl (fun h => ?_) fun n4 => ?_
  · subst h
    exact ⟨_, rfl, _, rfl, H0, v, u, d, e, rfl, f, b1, b2, s0, q⟩
  · have h : decide (sg.s ∈ [("-" : Str), "*", "/"]) = true := h
    rw [mem_calc] at h
    have e1 : oper sg d e = calcD sg d e := by cases sg <;> first | rfl | exact absurd h (by decide)
    rw [e1] at q
    exact ⟨_, rfl, _, rfl, _, rfl, sg, H0, v, u, d, e, rfl, h, ⟨_, f.choose_spec.1.same s1, f.choose_spec.2⟩, b1, b2, s0.trans s1, q.later s1⟩
  · subst h
    exact ⟨_, rfl, _, rfl, v, u, d, e, rfl, R1.mono (rds_of s1), R2.mono (rds_of s1), b1.wd, b1.dep, q.1 _ rfl _ _ s1 (fresh_bl _ _ _)⟩
  · subst h
    exact ⟨_, rfl, _, rfl, v, u, d, e, rfl, R1.mono (rds_of s1), R2.mono (rds_of s1), b1.wd, b1.dep, _, rfl, q.1 _ rfl _ _ s1 (fresh_bl _ _ _)⟩
  · have h : decide (sg.s ∈ [("-" : Str), "*", "/"]) = false := h
    rw [mem_calc] at h
    have e1 : oper sg d e = cmpD sg d e := by cases sg <;> first | rfl | exact absurd h (by decide) | exact absurd hs (by decide) | exact absurd rfl n1 | exact absurd rfl n3 | exact absurd rfl n4
    have e2 : isCmp sg = true := by cases sg <;> first | rfl | exact absurd h (by decide) | exact absurd hs (by decide) | exact absurd rfl n1 | exact absurd rfl n3 | exact absurd rfl n4
    rw [e1] at q
    exact ⟨_, rfl, _, rfl, _, rfl, sg, H0, v, u, d, e, rfl, e2, ⟨_, f.choose_spec.1.same s1, f.choose_spec.2⟩, b1, b2, s0.trans s1, q.later s1⟩
end
end Vk
set_option maxHeartbeats 4000000
/-! what an expression is worth keeps the bounds -/
namespace Vk
open PySem PySem.Spec PyProof.Rows L2
theorem sz_mem : ∀ {ds : List Dat} {d : Dat}, d ∈ ds → d.sz ≤ szL ds
  | c :: r, d, m => (List.mem_cons.mp m).elim (fun e => by rw [e, szL]; omega) fun m => Nat.le_trans (sz_mem m) (by rw [szL]; omega)
theorem Bd.part {d e : Dat} (h : Bd d) (m : e ∈ d.parts) : Bd e := by
  refine ⟨?_, ?_, (WDL.parts h.wd).mem m⟩
  · have := dep_part m
    have := h.dep
    omega
  · have h1 := sz_mem m
    have h2 := sz_of d
    have := h.sz
    omega
theorem bd_bl (b : Bool) : Bd (.bl b) := ⟨by rw [Dat.dep]; decide, by rw [Dat.sz]; decide, trivial⟩
theorem bd_non : Bd .non := ⟨by rw [Dat.dep]; decide, by rw [Dat.sz]; decide, trivial⟩
theorem bd_int {i : Int} (h : -big30 ≤ i ∧ i ≤ big30) : Bd (.int i) := ⟨by rw [Dat.dep]; decide, by rw [Dat.sz]; decide, h⟩
theorem bd_str {x : Str} (h : x.length ≤ 2000) : Bd (.str x) := ⟨by rw [Dat.dep]; decide, by rw [Dat.sz]; omega, by rw [Dat.WD]; omega⟩
theorem bd_nat {n : Nat} (h : n ≤ 5000) : Bd (.int (n : Nat)) := bd_int (by
  have hb : big30 = 1000000000000000000000000000000 := rfl
  rw [hb]
  omega)
theorem bd_made {d e : Dat} (h : made d = .ok e) (wd : d.WD) : Bd e := by
  have he := made_ok h
  subst he
  unfold made at h
  split at h
  · cases h
  · split at h
    · cases h
    · split at h
      · cases h
      · exact ⟨by omega, by omega, wd⟩
theorem bd_boundN {i : Int} {d : Dat} (h : boundN i = .ok d) : Bd d := by
  unfold boundN at h
  split at h
  · cases h
  · cases h
    exact bd_int (by omega)
theorem bd_boundT {x : Str} {d : Dat} (h : boundT x = .ok d) : Bd d := by
  unfold boundT at h
  split at h
  · cases h
  · cases h
    exact bd_str (by omega)
theorem bd_add {a b d : Dat} (ha : Bd a) (hb : Bd b) (h : addD a b = .ok d) : Bd d := by
  unfold addD at h
  split at h
  · exact bd_boundN h
  · rename_i x y
    have l1 := lst_len ha
    have l2 := lst_len hb
    exact bd_made h ⟨by rw [List.length_append]; omega, WDL_app ha.wd.2 hb.wd.2⟩
  · split at h
    · split at h
      · exact bd_boundT h
      · cases h
    · cases h
theorem bd_calc {s : Sg} {a b d : Dat} (h : calcD s a b = .ok d) : Bd d := by
  unfold calcD at h
  split at h
  · split at h
    · exact bd_boundN h
    · exact bd_boundN h
    · split at h
      · cases h
      · exact bd_boundN h
  · cases h
theorem bd_cmp {s : Sg} {a b d : Dat} (h : cmpD s a b = .ok d) : Bd d := by
  unfold cmpD at h
  split at h
  · cases h
    exact bd_bl _
  · cases h
    exact bd_bl _
  · cases h
theorem bd_oper {s : Sg} {a b d : Dat} (ha : Bd a) (hb : Bd b) (h : oper s a b = .ok d) : Bd d := by
  cases s with
  | add => exact bd_add ha hb h
  | sub => exact bd_calc (s := .sub) (a := a) (b := b) h
  | mul => exact bd_calc (s := .mul) (a := a) (b := b) h
  | div => exact bd_calc (s := .div) (a := a) (b := b) h
  | eq => cases h; exact bd_bl _
  | ne => cases h; exact bd_bl _
  | lt => exact bd_cmp (s := .lt) (a := a) (b := b) h
  | le => exact bd_cmp (s := .le) (a := a) (b := b) h
  | gt => exact bd_cmp (s := .gt) (a := a) (b := b) h
  | ge => exact bd_cmp (s := .ge) (a := a) (b := b) h
  | and => exact bd_cmp (s := .and) (a := a) (b := b) h
  | or => exact bd_cmp (s := .or) (a := a) (b := b) h
theorem look_mem : ∀ {ks : List Str} {ds : List Dat} {x : Str} {d : Dat}, lookK ks ds x = some d → d ∈ ds
  | [], _, _, _, h => by unfold lookK at h; cases h
  | _ :: _, [], _, _, h => by unfold lookK at h; cases h
  | k :: ks, e :: ds, x, d, h => by
    unfold lookK at h
    split at h
    · cases h
      exact List.mem_cons_self
    · exact List.mem_cons_of_mem _ (look_mem h)
theorem look_some : ∀ {ks : List Str} {ds : List Dat} {x : Str}, ks.length = ds.length → x ∈ ks → ∃ d, lookK ks ds x = some d
  | [], _, _, _, h => by cases h
  | _ :: _, [], _, h, _ => by cases h
  | k :: ks, e :: ds, x, l, m => by
    unfold lookK
    by_cases h : k = x
    · rw [if_pos h]
      exact ⟨_, rfl⟩
    · rw [if_neg h]
      exact look_some (Nat.succ.inj l) ((List.mem_cons.mp m).elim (fun e => absurd e.symm h) id)
theorem bd_field {x : Str} {a d : Dat} (ha : Bd a) (h : fieldD x a = .ok d) : Bd d := by
  unfold fieldD at h
  split at h
  · split at h
    · rename_i ks ds d' g
      cases h
      exact ha.part (look_mem g)
    · cases h
  · cases h
theorem bd_get {a p d : Dat} (ha : Bd a) (h : getAt a p = some d) : Bd d := by
  unfold getAt at h
  split at h
  · exact ha.part (look_mem h)
  · split at h
    · exact ha.part (List.mem_of_getElem? h)
    · cases h
  · split at h
    · obtain ⟨c, _, rfl⟩ := Option.map_eq_some_iff.mp h
      exact bd_str (by show 1 ≤ 2000; decide)
    · cases h
  · cases h
theorem bd_at {a p d : Dat} (ha : Bd a) (h : atD a p = .ok d) : Bd d := by
  unfold atD at h
  split at h
  · split at h
    · rename_i g
      cases h
      exact bd_get ha g
    · cases h
  · cases h
theorem bd_text {d : Dat} {x : Str} (h : Bd d) (e : textD d = some x) : Bd (.str x) := bd_str (text_len h e)
theorem bd_fn {f : Fn} {ds : List Dat} {d : Dat} (hs : ∀ e ∈ ds, Bd e) (h : fnD f ds = .ok d) : Bd d := by
  unfold fnD at h
  split at h
  · rename_i a
    have ha := hs a List.mem_cons_self
    unfold lengthD at h
    split at h
    · cases h
      exact bd_nat (by have := str_len ha; omega)
    · cases h
      exact bd_nat (by have := lst_len ha; omega)
    · cases h
      exact bd_nat (by have := ha.wd.2.2.1; omega)
    · cases h
  · rename_i a
    have ha := hs a List.mem_cons_self
    split at h
    · rename_i g
      cases h
      exact bd_text ha g
    · cases h
  · rename_i a b c
    have ha := hs a List.mem_cons_self
    have hc := hs c (List.mem_cons_of_mem _ (List.mem_cons_of_mem _ List.mem_cons_self))
    unfold getD' at h
    split at h
    · cases h
      exact hc
    · split at h
      · split at h
        · rename_i g
          cases h
          exact bd_get ha g
        · cases h
          exact hc
      · cases h
  · rename_i a
    have ha := hs a List.mem_cons_self
    unfold keysD at h
    split at h
    · rename_i ks ds
      refine bd_made h ?_
      unfold srt
      split
      · rename_i g
        have gp := g.choose_spec.1
        have wd := ha.wd
        refine ⟨?_, WDL_strs fun y hy => (wd.2.2.2.1 y (gp.mem_iff.mp hy)).1⟩
        rw [List.length_map, gp.length_eq]
        have := wd.2.2.1
        omega
      · exact ⟨Nat.zero_le _, trivial⟩
    · cases h
  · rename_i a b
    have ha := hs a List.mem_cons_self
    have hb := hs b (List.mem_cons_of_mem _ List.mem_cons_self)
    unfold minD at h
    split at h
    · cases h
      refine bd_int ?_
      have h1 := ha.wd
      have h2 := hb.wd
      rw [Dat.WD] at h1 h2
      simp only [Bool.false_eq_true, if_false]
      split <;> assumption
    · cases h
  · rename_i a b
    have ha := hs a List.mem_cons_self
    have hb := hs b (List.mem_cons_of_mem _ List.mem_cons_self)
    unfold minD at h
    split at h
    · cases h
      refine bd_int ?_
      have h1 := ha.wd
      have h2 := hb.wd
      rw [Dat.WD] at h1 h2
      simp only [if_true]
      split <;> assumption
    · cases h
  · cases h
/-! ### well-formed expressions -/
mutual
def Ex.lvl : Ex → Nat
  | .bin _ a b => max a.lvl b.lvl + 1 | .choice c a b => max c.lvl (max a.lvl b.lvl) + 1 | .gather g _ row => max g.lvl row.lvl + 1 | .gatherIf g _ row c => max g.lvl (max row.lvl c.lvl) + 1
  | .fn _ xs => xs.lvl + 1 | .lst xs => xs.lvl + 1 | .rcd _ xs => xs.lvl + 1 | .act _ xs => xs.lvl + 1 | .neg a => a.lvl + 1 | .not a => a.lvl + 1 | .field a _ => a.lvl + 1 | .item a b => max a.lvl b.lvl + 1
  | .null => 1 | .bl _ => 1 | .num _ => 1 | .txt _ => 1 | .name _ => 1
def Exs.lvl : Exs → Nat
  | .nil => 0 | .cons x r => max x.lvl r.lvl
end
def Exs.len : Exs → Nat
  | .nil => 0 | .cons _ r => r.len + 1
mutual
def Ex.ok : Ex → List Str → Prop
  | .null, _ => True | .bl _, _ => True | .num i, _ => -big30 ≤ i ∧ i ≤ big30 | .txt x, _ => x.length ≤ 100 | .name x, ks => x ∈ ks
  | .bin _ a b, ks => a.ok ks ∧ b.ok ks | .choice c a b, ks => c.ok ks ∧ a.ok ks ∧ b.ok ks | .gather g y row, ks => y.length ≤ 100 ∧ row.ok ks ∧ g.ok (putKs ks y)
  | .gatherIf g y row c, ks => y.length ≤ 100 ∧ row.ok ks ∧ g.ok (putKs ks y) ∧ c.ok (putKs ks y)
  | .fn f xs, ks => xs.len = f.ar ∧ xs.ok ks | .lst xs, ks => xs.len ≤ 10 ∧ xs.ok ks | .rcd ns xs, ks => ns.Nodup ∧ ns.length = xs.len ∧ ns.length ≤ 10 ∧ (∀ n ∈ ns, KeyOk n) ∧ xs.ok ks
  | .act n xs, ks => n.length ≤ 100 ∧ xs.len ≤ 10 ∧ xs.ok ks | .neg a, ks => a.ok ks | .not a, ks => a.ok ks | .field a x, ks => x.length ≤ 100 ∧ a.ok ks | .item a b, ks => a.ok ks ∧ b.ok ks
def Exs.ok : Exs → List Str → Prop
  | .nil, _ => True | .cons x r, ks => x.ok ks ∧ r.ok ks
end
/-- an environment -/
structure EnvOk (ks : List Str) (ds : List Dat) : Prop where
  nd : ks.Nodup
  len : ks.length = ds.length
  kl : ∀ k ∈ ks, k.length ≤ 5000
  bd : ∀ d ∈ ds, Bd d
theorem putKs_len (ks : List Str) (y : Str) : (putKs ks y).length ≤ ks.length + 1 := by
  unfold putKs
  split
  · omega
  · rw [List.length_append]; exact Nat.le_refl _
theorem putDs_in : ∀ {ks : List Str} {ds : List Dat} {y : Str} {m : Dat}, ks.length = ds.length → y ∈ ks → (putDs ks ds y m).length = ds.length
  | [], _, _, _, _, h => by cases h
  | _ :: _, [], _, _, h, _ => by cases h
  | k :: ks, d :: ds, y, m, l, h => by
    unfold putDs
    by_cases e : k = y
    · rw [if_pos e]; rfl
    · rw [if_neg e, List.length_cons, putDs_in (Nat.succ.inj l) ((List.mem_cons.mp h).elim (fun q => absurd q.symm e) id)]; rfl
theorem putDs_out : ∀ {ks : List Str} {ds : List Dat} {y : Str} {m : Dat}, ks.length = ds.length → y ∉ ks → putDs ks ds y m = ds ++ [m]
  | [], [], _, _, _, _ => rfl
  | [], _ :: _, _, _, h, _ => by cases h
  | _ :: _, [], _, _, h, _ => by cases h
  | k :: ks, d :: ds, y, m, l, h => by
    unfold putDs
    rw [if_neg (fun e => h (by rw [e]; exact List.mem_cons_self)), putDs_out (Nat.succ.inj l) (fun q => h (List.mem_cons_of_mem _ q))]
    rfl
theorem putDs_mem : ∀ {ks : List Str} {ds : List Dat} {y : Str} {m e : Dat}, e ∈ putDs ks ds y m → e = m ∨ e ∈ ds
  | [], ds, _, _, _, h => by
    unfold putDs at h
    exact .inl (List.mem_singleton.mp h)
  | _ :: _, [], _, _, _, h => by
    unfold putDs at h
    exact .inl (List.mem_singleton.mp h)
  | k :: ks, d :: ds, y, m, e, h => by
    unfold putDs at h
    split at h
    · exact (List.mem_cons.mp h).imp_right fun q => List.mem_cons_of_mem _ q
    · rcases List.mem_cons.mp h with q | q
      · exact .inr (by rw [q]; exact List.mem_cons_self)
      · exact (putDs_mem q).imp_right fun z => List.mem_cons_of_mem _ z
theorem EnvOk.put {ks : List Str} {ds : List Dat} {y : Str} {m : Dat} (h : EnvOk ks ds) (hy : y.length ≤ 5000) (hm : Bd m) : EnvOk (putKs ks y) (putDs ks ds y m) := by
  refine ⟨?_, ?_, fun k hk => ?_, fun d hd => (putDs_mem hd).elim (fun e => e ▸ hm) (h.bd d)⟩
  · unfold putKs
    split
    · exact h.nd
    · rename_i hn
      exact List.nodup_append.mpr ⟨h.nd, List.nodup_cons.mpr ⟨List.not_mem_nil, List.nodup_nil⟩, fun a ha b hb e => hn (by rw [List.mem_singleton.mp hb] at e; rw [← e]; exact ha)⟩
  · unfold putKs
    split
    · rename_i hi
      rw [putDs_in h.len hi]; exact h.len
    · rename_i hi
      rw [putDs_out h.len hi, List.length_append, List.length_append, h.len]; rfl
  · unfold putKs at hk
    split at hk
    · exact h.kl k hk
    · rcases List.mem_append.mp hk with q | q
      · exact h.kl k q
      · rw [List.mem_singleton.mp q]; exact hy
theorem goAll_bd {α : Type} {f : α → Except Str (Option Dat)} : ∀ {ms : List α} {vs : List Dat}, (∀ m ∈ ms, ∀ d, f m = .ok (some d) → Bd d) → goAll f ms = .ok vs → (∀ d ∈ vs, Bd d) ∧ vs.length ≤ ms.length
  | [], _, _, h => by
    unfold goAll at h
    cases h
    exact ⟨fun _ h => (by cases h), Nat.le_refl _⟩
  | m :: ms, vs, hf, h => by
    unfold goAll at h
    split at h
    · cases h
    · rename_i o ho
      split at h
      · cases h
      · rename_i r hr
        obtain ⟨i1, i2⟩ := goAll_bd (fun m hm => hf m (List.mem_cons_of_mem _ hm)) hr
        cases h
        cases o with
        | none => exact ⟨i1, Nat.le_succ_of_le i2⟩
        | some d =>
          refine ⟨fun e he => ?_, by rw [List.length_cons, List.length_cons]; omega⟩
          rcases List.mem_cons.mp he with q | q
          · rw [q]; exact hf m List.mem_cons_self d ho
          · exact i1 e q
theorem WDL_bd : ∀ {ds : List Dat}, (∀ d ∈ ds, Bd d) → WDL ds
  | [], _ => trivial
  | d :: r, h => ⟨(h d List.mem_cons_self).wd, WDL_bd fun e he => h e (List.mem_cons_of_mem _ he)⟩
theorem onOk_ok {α : Type} {r : Rs} {f : Dat → Except Str α} {x : α} (h : onOk r f = .ok x) : ∃ d, r = .ok d ∧ f d = .ok x := by
  cases r with
  | error m => cases h
  | ok d => exact ⟨d, rfl, h⟩
theorem onOks_ok {r : Except Str (List Dat)} {f : List Dat → Rs} {x : Dat} (h : onOks r f = .ok x) : ∃ d, r = .ok d ∧ f d = .ok x := by
  cases r with
  | error m => cases h
  | ok d => exact ⟨d, rfl, h⟩
theorem asBl_ok {α : Type} {d : Dat} {f : Bool → Except Str α} {x : α} (h : asBl d f = .ok x) : ∃ b, d = .bl b ∧ f b = .ok x := by
  cases d <;> first | exact ⟨_, rfl, h⟩ | cases h
theorem asLst_ok {α : Type} {d : Dat} {f : List Dat → Except Str α} {x : α} (h : asLst d f = .ok x) : ∃ b, d = .lst b ∧ f b = .ok x := by
  cases d <;> first | exact ⟨_, rfl, h⟩ | cases h
mutual
theorem ev_bd {o : Int} (ho : -big30 ≤ o ∧ o ≤ big30) : ∀ (x : Ex) {ks : List Str} {ds : List Dat} {d : Dat}, x.ok ks → EnvOk ks ds → ev o x ks ds = .ok d → Bd d
  | .null, _, _, _, _, _, h => by rw [ev] at h; cases h; exact bd_non
  | .bl b, _, _, _, _, _, h => by rw [ev] at h; cases h; exact bd_bl b
  | .num i, _, _, _, k, _, h => by rw [ev] at h; cases h; exact bd_int k
  | .txt x, _, _, _, k, _, h => by rw [ev] at h; cases h; rw [Ex.ok] at k; exact bd_str (by omega)
  | .name x, ks, ds, _, _, e, h => by
    rw [ev] at h
    split at h
    · rename_i g
      cases h
      exact e.bd _ (look_mem g)
    · cases h
  | .bin s a b, ks, ds, d, k, e, h => by
    rw [ev] at h
    rw [Ex.ok] at k
    obtain ⟨d1, h1, h⟩ := onOk_ok h
    have b1 := ev_bd ho a k.1 e h1
    split at h
    · obtain ⟨t, rfl, h'⟩ := asBl_ok h
      split at h'
      · cases h'
        exact bd_bl _
      · obtain ⟨d2, h2, h3⟩ := onOk_ok h'
        obtain ⟨t2, rfl, h4⟩ := asBl_ok h3
        cases h4
        exact bd_bl _
    · obtain ⟨d2, h2, h⟩ := onOk_ok h
      exact bd_oper b1 (ev_bd ho b k.2 e h2) h
  | .choice c a b, ks, ds, d, k, e, h => by
    rw [ev] at h
    rw [Ex.ok] at k
    obtain ⟨d1, h1, h⟩ := onOk_ok h
    obtain ⟨t, rfl, h'⟩ := asBl_ok h
    split at h'
    · exact ev_bd ho a k.2.1 e h'
    · exact ev_bd ho b k.2.2 e h'
  | .gather g y row, ks, ds, d, k, e, h => by
    rw [ev] at h
    rw [Ex.ok] at k
    obtain ⟨d1, h1, h⟩ := onOk_ok h
    obtain ⟨ms, rfl, h⟩ := asLst_ok h
    obtain ⟨vs, h2, h⟩ := onOks_ok h
    have b1 := ev_bd ho row k.2.1 e h1
    have hm : ∀ m ∈ ms, Bd m := fun m hm => b1.part (d := .lst ms) hm
    obtain ⟨g1, g2⟩ := goAll_bd (fun m hmm d hd => by
      obtain ⟨d', h3, h4⟩ := onOk_ok hd
      cases h4
      exact ev_bd ho g k.2.2 (e.put (by have := k.1; omega) (hm m hmm)) h3) h2
    have := lst_len b1
    exact bd_made h ⟨by omega, WDL_bd g1⟩
  | .gatherIf g y row c, ks, ds, d, k, e, h => by
    rw [ev] at h
    rw [Ex.ok] at k
    obtain ⟨d1, h1, h⟩ := onOk_ok h
    obtain ⟨ms, rfl, h⟩ := asLst_ok h
    obtain ⟨vs, h2, h⟩ := onOks_ok h
    have b1 := ev_bd ho row k.2.1 e h1
    have hm : ∀ m ∈ ms, Bd m := fun m hm => b1.part (d := .lst ms) hm
    obtain ⟨g1, g2⟩ := goAll_bd (fun m hmm d hd => by
      obtain ⟨d0, h3, h4⟩ := onOk_ok hd
      obtain ⟨t, rfl, h7⟩ := asBl_ok h4
      split at h7
      · obtain ⟨d', h5, h6⟩ := onOk_ok h7
        cases h6
        exact ev_bd ho g k.2.2.1 (e.put (by have := k.1; omega) (hm m hmm)) h5
      · cases h7) h2
    have := lst_len b1
    exact bd_made h ⟨by omega, WDL_bd g1⟩
  | .fn f xs, ks, ds, d, k, e, h => by
    rw [ev] at h
    rw [Ex.ok] at k
    obtain ⟨vs, h1, h⟩ := onOks_ok h
    exact bd_fn (evs_bd ho xs k.2 e h1).1 h
  | .lst xs, ks, ds, d, k, e, h => by
    rw [ev] at h
    rw [Ex.ok] at k
    obtain ⟨vs, h1, h⟩ := onOks_ok h
    obtain ⟨g1, g2⟩ := evs_bd ho xs k.2 e h1
    exact bd_made h ⟨by have := k.1; omega, WDL_bd g1⟩
  | .rcd ns xs, ks, ds, d, k, e, h => by
    rw [ev] at h
    rw [Ex.ok] at k
    obtain ⟨vs, h1, h⟩ := onOks_ok h
    obtain ⟨g1, g2⟩ := evs_bd ho xs k.2.2.2.2 e h1
    exact bd_made h ⟨k.1, by rw [g2]; exact k.2.1, by have := k.2.2.1; omega, k.2.2.2.1, WDL_bd g1⟩
  | .act n xs, ks, ds, d, k, e, h => by
    rw [ev] at h
    rw [Ex.ok] at k
    obtain ⟨vs, h1, h⟩ := onOks_ok h
    obtain ⟨g1, g2⟩ := evs_bd ho xs k.2.2 e h1
    exact bd_made h ⟨ho, by have := k.1; omega, by have := k.2.1; omega, WDL_bd g1⟩
  | .neg a, ks, ds, d, k, e, h => by
    rw [ev] at h
    obtain ⟨d1, h1, h⟩ := onOk_ok h
    cases d1 <;> first | exact bd_boundN h | cases h
  | .not a, ks, ds, d, k, e, h => by
    rw [ev] at h
    obtain ⟨d1, h1, h⟩ := onOk_ok h
    obtain ⟨t, rfl, h'⟩ := asBl_ok h
    cases h'
    exact bd_bl _
  | .field a x, ks, ds, d, k, e, h => by
    rw [ev] at h
    rw [Ex.ok] at k
    obtain ⟨d1, h1, h⟩ := onOk_ok h
    exact bd_field (ev_bd ho a k.2 e h1) h
  | .item a b, ks, ds, d, k, e, h => by
    rw [ev] at h
    rw [Ex.ok] at k
    obtain ⟨d1, h1, h⟩ := onOk_ok h
    obtain ⟨d2, h2, h⟩ := onOk_ok h
    exact bd_at (ev_bd ho a k.1 e h1) h
theorem evs_bd {o : Int} (ho : -big30 ≤ o ∧ o ≤ big30) : ∀ (xs : Exs) {ks : List Str} {ds vs : List Dat}, xs.ok ks → EnvOk ks ds → evs o xs ks ds = .ok vs → (∀ d ∈ vs, Bd d) ∧ vs.length = xs.len
  | .nil, _, _, _, _, _, h => by
    rw [evs] at h
    cases h
    exact ⟨fun _ h => (by cases h), rfl⟩
  | .cons x r, ks, ds, vs, k, e, h => by
    rw [evs] at h
    rw [Exs.ok] at k
    split at h
    · cases h
    · rename_i d hd
      split at h
      · cases h
      · rename_i us hu
        cases h
        obtain ⟨g1, g2⟩ := evs_bd ho r k.2 e hu
        have b1 := ev_bd ho x k.1 e hd
        exact ⟨fun z hz => (List.mem_cons.mp hz).elim (fun q => q ▸ b1) (g1 z), by rw [List.length_cons, g2]; rfl⟩
end
end Vk
set_option maxHeartbeats 4000000
/-! evaluate -/
namespace Vk
open PySem PySem.Spec PyProof.Rows L2
/-! ### the heap bears an expression -/
mutual
inductive ERep (H : Hp) : V → Ex → Prop
  | null {a : Addr} (h : H a = some (.tup [.str "null"])) : ERep H (.ref a) .null
  | tru {a : Addr} (h : H a = some (.tup [.str "true"])) : ERep H (.ref a) (.bl true)
  | fls {a : Addr} (h : H a = some (.tup [.str "false"])) : ERep H (.ref a) (.bl false)
  | num {a : Addr} {i : Int} (h : H a = some (.tup [.str "number", .int i])) : ERep H (.ref a) (.num i)
  | txt {a : Addr} {x : Str} (h : H a = some (.tup [.str "text", .str x])) : ERep H (.ref a) (.txt x)
  | name {a : Addr} {x : Str} (h : H a = some (.tup [.str "name", .str x])) : ERep H (.ref a) (.name x)
  | bin {a : Addr} {s : Sg} {v u : V} {x y : Ex} (h : H a = some (.tup [.str "binary", .str s.s, v, u])) (r : ERep H v x) (r2 : ERep H u y) : ERep H (.ref a) (.bin s x y)
  | choice {a : Addr} {v u w : V} {x y z : Ex} (h : H a = some (.tup [.str "choice", v, u, w])) (r : ERep H v x) (r2 : ERep H u y) (r3 : ERep H w z) : ERep H (.ref a) (.choice x y z)
  | gather {a : Addr} {v u : V} {n : Str} {x y : Ex} (h : H a = some (.tup [.str "gather", v, .str n, u, .non])) (r : ERep H v x) (r2 : ERep H u y) : ERep H (.ref a) (.gather x n y)
  | gatherIf {a b : Addr} {v u : V} {n : Str} {x y z : Ex} (h : H a = some (.tup [.str "gather", v, .str n, u, .ref b])) (r : ERep H v x) (r2 : ERep H u y) (r3 : ERep H (.ref b) z) : ERep H (.ref a) (.gatherIf x n y z)
  | fn {a b : Addr} {f : Fn} {vs : List V} {xs : Exs} (h : H a = some (.tup [.str "function", .str f.s, .ref b])) (h2 : H b = some (.lst vs)) (r : EReps H vs xs) : ERep H (.ref a) (.fn f xs)
  | lst {a b : Addr} {vs : List V} {xs : Exs} (h : H a = some (.tup [.str "list", .ref b])) (h2 : H b = some (.lst vs)) (r : EReps H vs xs) : ERep H (.ref a) (.lst xs)
  | rcd {a b : Addr} {ns : List Str} {vs : List V} {xs : Exs} (h : H a = some (.tup [.str "record", .ref b])) (h2 : H b = some (.lst vs)) (r : ERecs H vs ns xs) : ERep H (.ref a) (.rcd ns xs)
  | act {a b : Addr} {n : Str} {vs : List V} {xs : Exs} (h : H a = some (.tup [.str "act", .str n, .ref b])) (h2 : H b = some (.lst vs)) (r : EReps H vs xs) : ERep H (.ref a) (.act n xs)
  | neg {a : Addr} {v : V} {x : Ex} (h : H a = some (.tup [.str "minus", v])) (r : ERep H v x) : ERep H (.ref a) (.neg x)
  | not {a : Addr} {v : V} {x : Ex} (h : H a = some (.tup [.str "not", v])) (r : ERep H v x) : ERep H (.ref a) (.not x)
  | field {a : Addr} {v : V} {n : Str} {x : Ex} (h : H a = some (.tup [.str "field", v, .str n])) (r : ERep H v x) : ERep H (.ref a) (.field x n)
  | item {a : Addr} {v u : V} {x y : Ex} (h : H a = some (.tup [.str "item", v, u])) (r : ERep H v x) (r2 : ERep H u y) : ERep H (.ref a) (.item x y)
inductive EReps (H : Hp) : List V → Exs → Prop
  | nil : EReps H [] .nil
  | cons {v : V} {x : Ex} {vs : List V} {xs : Exs} (h : ERep H v x) (r : EReps H vs xs) : EReps H (v :: vs) (.cons x xs)
inductive ERecs (H : Hp) : List V → List Str → Exs → Prop
  | nil : ERecs H [] [] .nil
  | cons {p : Addr} {n : Str} {v : V} {x : Ex} {vs : List V} {ns : List Str} {xs : Exs} (hp : H p = some (.tup [.str n, v])) (h : ERep H v x) (r : ERecs H vs ns xs) : ERecs H (.ref p :: vs) (n :: ns) (.cons x xs)
end
mutual
theorem ERep.mono {H H' : Hp} (s : RdSame H H') : ∀ {v : V} {x : Ex}, ERep H v x → ERep H' v x
  | _, _, .null h => .null (s.tup _ _ h)
  | _, _, .tru h => .tru (s.tup _ _ h)
  | _, _, .fls h => .fls (s.tup _ _ h)
  | _, _, .num h => .num (s.tup _ _ h)
  | _, _, .txt h => .txt (s.tup _ _ h)
  | _, _, .name h => .name (s.tup _ _ h)
  | _, _, .bin h r r2 => .bin (s.tup _ _ h) (ERep.mono s r) (ERep.mono s r2)
  | _, _, .choice h r r2 r3 => .choice (s.tup _ _ h) (ERep.mono s r) (ERep.mono s r2) (ERep.mono s r3)
  | _, _, .gather h r r2 => .gather (s.tup _ _ h) (ERep.mono s r) (ERep.mono s r2)
  | _, _, .gatherIf h r r2 r3 => .gatherIf (s.tup _ _ h) (ERep.mono s r) (ERep.mono s r2) (ERep.mono s r3)
  | _, _, .fn h h2 r => .fn (s.tup _ _ h) (s.lst _ _ h2) (EReps.mono s r)
  | _, _, .lst h h2 r => .lst (s.tup _ _ h) (s.lst _ _ h2) (EReps.mono s r)
  | _, _, .rcd h h2 r => .rcd (s.tup _ _ h) (s.lst _ _ h2) (ERecs.mono s r)
  | _, _, .act h h2 r => .act (s.tup _ _ h) (s.lst _ _ h2) (EReps.mono s r)
  | _, _, .neg h r => .neg (s.tup _ _ h) (ERep.mono s r)
  | _, _, .not h r => .not (s.tup _ _ h) (ERep.mono s r)
  | _, _, .field h r => .field (s.tup _ _ h) (ERep.mono s r)
  | _, _, .item h r r2 => .item (s.tup _ _ h) (ERep.mono s r) (ERep.mono s r2)
theorem EReps.mono {H H' : Hp} (s : RdSame H H') : ∀ {v : List V} {x : Exs}, EReps H v x → EReps H' v x
  | _, _, .nil => .nil
  | _, _, .cons h r => .cons (ERep.mono s h) (EReps.mono s r)
theorem ERecs.mono {H H' : Hp} (s : RdSame H H') : ∀ {v : List V} {ns : List Str} {x : Exs}, ERecs H v ns x → ERecs H' v ns x
  | _, _, _, .nil => .nil
  | _, _, _, .cons hp h r => .cons (s.tup _ _ hp) (ERep.mono s h) (ERecs.mono s r)
end
def EnvR (H : Hp) (a : Addr) (ks : List Str) (ds : List Dat) : Prop := ∃ kvs, Rd H a (.dK kvs) ∧ kvs.map (·.1) = ks.map Sum.inr ∧ Reps H (kvs.map (·.2)) ds
structure EvIn (H : Hp) (a : Addr) (ks : List Str) (ds : List Dat) (o : Int) (n : Nat) : Prop where
  env : EnvR H a ks ds
  ok : EnvOk ks ds
  room : ks.length + n ≤ 60
  ob : -big30 ≤ o ∧ o ≤ big30
theorem EvIn.mono {H H' : Hp} {a : Addr} {ks : List Str} {ds : List Dat} {o : Int} {n : Nat} (h : EvIn H a ks ds o n) (s : RdSame H H') : EvIn H' a ks ds o n :=
  let ⟨kvs, h1, h2, h3⟩ := h.env; ⟨⟨kvs, s.dic _ _ h1, h2, h3.mono s⟩, h.ok, h.room, h.ob⟩
theorem EvIn.less {H : Hp} {a : Addr} {ks : List Str} {ds : List Dat} {o : Int} {n m : Nat} (h : EvIn H a ks ds o n) (l : m ≤ n) : EvIn H a ks ds o m := ⟨h.env, h.ok, by have := h.room; omega, h.ob⟩
/-- an expression's value -/
def spEvP (C : Addr) (p : Ex → Prop) (n : Nat) : Sp := fun vs H Q E => ∃ v a o x ks ds, vs = [v, .ref a, .int o] ∧ ERep H v x ∧ p x ∧ x.ok ks ∧ x.lvl ≤ n ∧ EvIn H a ks ds o n ∧ Res C H H Q E (ev o x ks ds)
abbrev spEv (C : Addr) (n : Nat) : Sp := spEvP C (fun _ => True) n
def spEvs (C : Addr) (n : Nat) : Sp := fun vs H Q E => ∃ l us a o xs ks ds, vs = [.ref l, .ref a, .int o] ∧ H l = some (.lst us) ∧ EReps H us xs ∧ xs.ok ks ∧ xs.lvl ≤ n ∧ xs.len ≤ 1000 ∧ EvIn H a ks ds o n ∧
  (∀ rs, evs o xs ks ds = .ok rs → ∀ p H', Same H H' → Fresh H H' (.ref p) (.lst rs) → Q (.ref p) H') ∧ ∀ m, evs o xs ks ds = .error m → EF C H m E
theorem onOk_v {α : Type} (d : Dat) (f : Dat → Except Str α) : onOk (.ok d) f = f d := rfl
theorem onOk_e {α : Type} (m : Str) (f : Dat → Except Str α) : onOk (.error m) f = .error m := rfl
theorem onOks_v (d : List Dat) (f : List Dat → Rs) : onOks (.ok d) f = f d := rfl
theorem onOks_e (m : Str) (f : List Dat → Rs) : onOks (.error m) f = .error m := rfl
theorem asBl_v {α : Type} (b : Bool) (f : Bool → Except Str α) : asBl (.bl b) f = f b := rfl
theorem asBl_e {α : Type} {d : Dat} (h : d.kd ≠ .boolean) (f : Bool → Except Str α) : asBl d f = .error "not true or false" := by
  cases d <;> first | rfl | exact absurd rfl h
theorem asLst_e {α : Type} {d : Dat} (h : d.kd ≠ .list) (f : List Dat → Except Str α) : asLst d f = .error "not a list" := by
  cases d <;> first | rfl | exact absurd rfl h
theorem Fresh.one {H0 H : Hp} {v : V} {d : Dat} (f : Fresh H0 H v d) : Freshs H0 H [v] [d] := by
  obtain ⟨F, o, n, z⟩ := f
  exact ⟨F ++ [], .cons o .nil, by rw [List.append_nil]; exact n, by rw [List.append_nil]; exact z⟩
/-- the j-th of a tuple -/
theorem at_tup {K : PySem.W.Frag} {σ : L2.St} {H : Hp} {i : Nat} {A : Addr} {ws : List V} {v : V} {Q : VK} (j : Nat) (h1 : σ[i]? = some (some (.ref A))) (hA : H A = some (.tup ws)) (e : ws[j]? = some v) (q : Q v H) : tOp (rIxT K) (tVar i) (tC (.int ((j : Nat) : Int))) σ H Q :=
  ⟨_, h1, A, ws, _, v, rfl, rfl, .inl (.inl hA), atI_nat e, q⟩
section
variable {K : PySem.W.Frag} {C : Addr} {σ : L2.St} {H : Hp} {n : Nat} {Q : VK} {E : XK} {v : V} {x : Ex} {a : Addr} {o : Int} {ks : List Str} {ds : List Dat}
theorem ev_call (R : ERep H v x) (ok : x.ok ks) (lv : x.lvl ≤ n) (I : EvIn H a ks ds o n) (q : ∀ d, ev o x ks ds = .ok d → Bd d → ∀ u H', Same H H' → Fresh H H' u d → Q u H') (e : ∀ m, ev o x ks ds = .error m → EF C H m E) : spEv C n [v, .ref a, .int o] H Q E :=
  ⟨v, a, o, x, ks, ds, rfl, R, trivial, ok, lv, I, fun d h => q d h (ev_bd I.ob x ok I.ok h), e⟩
/-- evaluate(expression[j], environment, owner) -/
theorem sub_ev {A : Addr} {ws : List V} {i : Nat} (j : Nat) (h0 : σ[0]? = some (some (.ref A))) (hA : H A = some (.tup ws)) (he : ws[j]? = some v) (h1 : σ[i]? = some (some (.ref a))) (h2 : σ[2]? = some (some (.int o)))
    (R : ERep H v x) (ok : x.ok ks) (lv : x.lvl ≤ n) (I : EvIn H a ks ds o n) (q : ∀ d, ev o x ks ds = .ok d → Bd d → ∀ u H', Same H H' → Fresh H H' u d → Q u H') (e : ∀ m, ev o x ks ds = .error m → EF C H m E) :
    tCal (spEv C n) E (tCons (tOp (rIxT K) (tVar 0) (tC (.int ((j : Nat) : Int)))) (tCons (tVar i) (tCons (tVar 2) tNil))) σ H Q :=
  at_tup j h0 hA he ⟨_, h1, _, h2, ev_call R ok lv I q e⟩
end
def isBin : Ex → Prop
  | .bin _ _ _ => True
  | _ => False
def isChoice : Ex → Prop
  | .choice _ _ _ => True
  | _ => False
section
variable {w : World} {K : PySem.W.Frag} {mg : Str → Option Value} {base : Heap} {n k : Nat} {C Vw fI cc cda : Addr}
abbrev s_evaluate_binary : Stmt := topS 60
theorem sc_evaluate_binary : FnScope ["expression", "environment", "owner", "sign", "first"] ["expression", "environment", "owner"] (defScope s_evaluate_binary) := ⟨rfl, rfl, rfl, by decide +kernel, rfl, by decide +kernel, by decide +kernel⟩
theorem cal_evaluate_binary (D : DefA K mg "evaluate_binary" s_evaluate_binary) (z : Nm mg) (hk : 41 ≤ k) (c_need_boolean : Cal PP w K mg base (CX PP w) 2 "need_boolean" ["value"] (spNeed C .boolean "not true or false")) (c_operate : Cal PP w K mg base (CX PP w) 41 "operate" ["sign", "first", "second"] (spSgn C isOp oper))
    (c_evaluate : Cal PP w K mg base (CX PP w) k "evaluate" ["expression", "environment", "owner"] (spEv C n)) : Cal PP w K mg base (CX PP w) (k + 1) "evaluate_binary" ["expression", "environment", "owner"] (spEvP C isBin (n + 1)) := by
  have c_need_boolean := c_need_boolean.mono (show 2 ≤ k by omega)
  have c_operate := c_operate.mono hk
  refine cal_mk D sc_evaluate_binary (fun _ _ _ _ _ _ us hl => match us, hl with | [_, _, _], _ => rfl) (fun vs H Q E h => ?_) (fun f cdv A outer s H vs Q E hr h => ?_)
  · obtain ⟨v, a, o, x, ks, ds, rfl, _⟩ := h
    rfl
  obtain ⟨v, a, o, x, ks, ds, rfl, R, px, ok, lv, I, q⟩ := h
  refine ⟨_, (pss_cons (ps_set (i := 3) sc_evaluate_binary.nd rfl (Or.inl rfl) (pe_ix ix_tup (pv 0) pe_int (fun _ _ => rfl)))
    (pss_cons (ps_set (i := 4) sc_evaluate_binary.nd rfl (Or.inl rfl) (pe_calS c_evaluate hr (by rfl) (fun σ => passAt (takes_of rfl rfl rfl rfl) σ) (pa_cons (pe_ix ix_tup (pv 0) pe_int (fun _ _ => rfl)) (pa_cons (pv 1) (pa_cons (pv 2) pa_nil)))))
    (pss_cons (ps_if (PW.pt (pw_or (pt_cmpR op_eq (pv 3) pe_str (nomark _)) (pw_or1 (pt_cmpR op_eq (pv 3) pe_str (nomark _))))) (pss_cons (ps_if (pt_cmpR op_eq (pe_calS c_need_boolean hr (by rfl) (fun σ => passAt (takes_of rfl rfl rfl rfl) σ) (pa_cons (pv 4) pa_nil)) (pe_cmpR op_eq (pv 3) pe_str (nomark _)) (nomark _)) (pss_one (ps_ret (pv 4))) pss_nil)
    (pss_one (ps_ret (pe_calS c_need_boolean hr (by rfl) (fun σ => passAt (takes_of rfl rfl rfl rfl) σ) (pa_cons (pe_calS c_evaluate hr (by rfl) (fun σ => passAt (takes_of rfl rfl rfl rfl) σ) (pa_cons (pe_ix ix_tup (pv 0) pe_int (fun _ _ => rfl)) (pa_cons (pv 1) (pa_cons (pv 2) pa_nil)))) pa_nil))))) pss_nil)
    (pss_one (ps_ret (pe_calS c_operate hr (by rfl) (fun σ => passAt (takes_of rfl rfl rfl rfl) σ) (pa_cons (pv 3) (pa_cons (pv 4) (pa_cons (pe_calS c_evaluate hr (by rfl) (fun σ => passAt (takes_of rfl rfl rfl rfl) σ) (pa_cons (pe_ix ix_tup (pv 0) pe_int (fun _ _ => rfl)) (pa_cons (pv 1) (pa_cons (pv 2) pa_nil)))) pa_nil))))))))), ?_⟩
  cases R with
  | @bin A s v u x y hA r1 r2 =>
    rw [Ex.ok] at ok
    rw [Ex.lvl] at lv
    rw [ev] at q
    have I' := I.less (Nat.le_succ n)
    refine setS (at_tup 1 rfl hA rfl (setS (sub_ev 2 rfl hA rfl rfl rfl r1 ok.1 (by omega) I' (fun d1 e1 b1 v1 H1 s1 f1 => ?_) fun m e1 => q.2 m (by rw [e1]; rfl))))
    rw [e1, onOk_v] at q
    have R2 := r2.mono (rds_of s1)
    have I2 := I'.mono (rds_of s1)
    have hA2 := s1 _ _ hA
    refine if_pureN (p := decide (s = .and) || decide (s = .or)) (PureT.or (fun Q q => ⟨_, rfl, rfl, _, congrArg V.bl (sg_dec s .and), q⟩) fun _ Q q => ⟨_, rfl, rfl, _, congrArg V.bl (sg_dec s .or), q⟩) (fun h => ?_) fun h => ?_
    · have hl : logic s = true := by cases s <;> first | rfl | exact absurd h (by decide)
      rw [if_pos hl] at q
      refine ⟨_, rfl, v1, d1, rfl, f1.rep, fun k1 => ?_, fun k1 => (q.2 _ (asBl_e k1 _)).later s1⟩
      cases f1.rep with
      | bl b =>
        rw [asBl_v] at q
        refine ⟨_, rfl, rfl, ?_⟩
        have eb : decide (V.bl b = V.bl (decide (V.str s.s = V.str "||"))) = decide (b = decide (s = .or)) := by
          have e0 : decide (V.str s.s = V.str "||") = decide (s = .or) := sg_dec s .or
          rw [e0]
          exact decide_eq_decide.mpr ⟨fun z => by cases z; rfl, fun z => by rw [← z]⟩
        refine ⟨rfl, _, congrArg V.bl eb, ite2 (fun h2 => ?_) fun h2 => ?_⟩
        · rw [if_pos (of_decide_eq_true h2)] at q
          exact ⟨_, rfl, q.1 _ rfl _ _ s1 (fresh_bl _ _ _)⟩
        · rw [if_neg (fun z => h2 (decide_eq_true z))] at q
          refine sub_ev 3 rfl hA2 rfl rfl rfl R2 ok.2 (by omega) I2 (fun d2 e2 b2 v2 H2 s2 f2 => ?_) fun m e2 => (q.2 m (by rw [e2]; rfl)).later s1
          rw [e2, onOk_v] at q
          refine ⟨v2, d2, rfl, f2.rep, fun k2 => ?_, fun k2 => (q.2 _ (asBl_e k2 _)).later (s1.trans s2)⟩
          cases f2.rep with
          | bl b2 => exact q.1 _ rfl _ _ (s1.trans s2) (fresh_bl _ _ _)
          | _ => cases k2
      | _ => cases k1
    · have hl : ¬ logic s = true := by cases s <;> first | decide | exact absurd h (by decide)
      have ho : isOp s = true := by cases s <;> first | rfl | exact absurd h (by decide)
      rw [if_neg hl] at q
      refine ⟨_, rfl, _, rfl, sub_ev 3 rfl hA2 rfl rfl rfl R2 ok.2 (by omega) I2 (fun d2 e2 b2 v2 H2 s2 f2 => ?_) fun m e2 => (q.2 m (by rw [e2]; rfl)).later s1⟩
      rw [e2, onOk_v] at q
      exact ⟨s, H, v1, v2, d1, d2, rfl, ho, f1.one.snoc s2 s1 f2, b1, b2, s1.trans s2, q.later (s1.trans s2)⟩
  | _ => exact px.elim
abbrev s_evaluate_choice : Stmt := topS 61
theorem sc_evaluate_choice : FnScope ["expression", "environment", "owner"] ["expression", "environment", "owner"] (defScope s_evaluate_choice) := ⟨rfl, rfl, rfl, by decide +kernel, rfl, by decide +kernel, by decide +kernel⟩
theorem cal_evaluate_choice (D : DefA K mg "evaluate_choice" s_evaluate_choice) (z : Nm mg) (hk : 41 ≤ k) (c_need_boolean : Cal PP w K mg base (CX PP w) 2 "need_boolean" ["value"] (spNeed C .boolean "not true or false"))
    (c_evaluate : Cal PP w K mg base (CX PP w) k "evaluate" ["expression", "environment", "owner"] (spEv C n)) : Cal PP w K mg base (CX PP w) (k + 1) "evaluate_choice" ["expression", "environment", "owner"] (spEvP C isChoice (n + 1)) := by
  have c_need_boolean := c_need_boolean.mono (show 2 ≤ k by omega)
  refine cal_mk D sc_evaluate_choice (fun _ _ _ _ _ _ us hl => match us, hl with | [_, _, _], _ => rfl) (fun vs H Q E h => ?_) (fun f cdv A outer s H vs Q E hr h => ?_)
  · obtain ⟨v, a, o, x, ks, ds, rfl, _⟩ := h
    rfl
  obtain ⟨v, a, o, x, ks, ds, rfl, R, px, ok, lv, I, q⟩ := h
  refine ⟨_, (pss_cons (ps_if (pt_val (pe_calS c_need_boolean hr (by rfl) (fun σ => passAt (takes_of rfl rfl rfl rfl) σ) (pa_cons (pe_calS c_evaluate hr (by rfl) (fun σ => passAt (takes_of rfl rfl rfl rfl) σ) (pa_cons (pe_ix ix_tup (pv 0) pe_int (fun _ _ => rfl)) (pa_cons (pv 1) (pa_cons (pv 2) pa_nil)))) pa_nil))) (pss_one (ps_ret (pe_calS c_evaluate hr (by rfl) (fun σ => passAt (takes_of rfl rfl rfl rfl) σ) (pa_cons (pe_ix ix_tup (pv 0) pe_int (fun _ _ => rfl)) (pa_cons (pv 1) (pa_cons (pv 2) pa_nil)))))) pss_nil)
    (pss_one (ps_ret (pe_calS c_evaluate hr (by rfl) (fun σ => passAt (takes_of rfl rfl rfl rfl) σ) (pa_cons (pe_ix ix_tup (pv 0) pe_int (fun _ _ => rfl)) (pa_cons (pv 1) (pa_cons (pv 2) pa_nil))))))), ?_⟩
  cases R with
  | @choice A v u t x y z hA r1 r2 r3 =>
    rw [Ex.ok] at ok
    rw [Ex.lvl] at lv
    rw [ev] at q
    have I' := I.less (Nat.le_succ n)
    refine sub_ev 1 rfl hA rfl rfl rfl r1 ok.1 (by omega) I' (fun d1 e1 b1 v1 H1 s1 f1 => ?_) fun m e1 => q.2 m (by rw [e1]; rfl)
    rw [e1, onOk_v] at q
    have I2 := I'.mono (rds_of s1)
    have hA2 := s1 _ _ hA
    refine ⟨v1, d1, rfl, f1.rep, fun k1 => ?_, fun k1 => (q.2 _ (asBl_e k1 _)).later s1⟩
    cases f1.rep with
    | bl b =>
      rw [asBl_v] at q
      refine ⟨b, rfl, ?_⟩
      cases b with
      | true =>
        rw [if_pos rfl] at q
        exact iteT (sub_ev 2 rfl hA2 rfl rfl rfl (r2.mono (rds_of s1)) ok.2.1 (by omega) I2 (fun d2 e2 b2 v2 H2 s2 f2 => q.1 d2 e2 _ _ (s1.trans s2) (f2.older s1)) fun m e2 => (q.2 m e2).later s1)
      | false =>
        rw [if_neg Bool.false_ne_true] at q
        exact iteF (sub_ev 3 rfl hA2 rfl rfl rfl (r3.mono (rds_of s1)) ok.2.2 (by omega) I2 (fun d2 e2 b2 v2 H2 s2 f2 => q.1 d2 e2 _ _ (s1.trans s2) (f2.older s1)) fun m e2 => (q.2 m e2).later s1)
    | _ => cases k1
  | _ => exact px.elim
end
end Vk
set_option maxHeartbeats 4000000
/-! evaluate: lists, parts -/
namespace Vk
open PySem PySem.Spec PyProof.Rows L2
/-! ### in turn -/
theorem go_app {α : Type} (f : α → Except Str (Option Dat)) : ∀ {a b : List α} {r : List Dat}, goAll f a = .ok r → goAll f (a ++ b) = match goAll f b with | .error e => .error e | .ok s => .ok (r ++ s)
  | [], b, r, h => by
    rw [goAll] at h
    cases h
    show goAll f b = _
    cases goAll f b <;> rfl
  | x :: a, b, r, h => by
    rw [goAll] at h
    rw [List.cons_append, goAll]
    cases e : f x with
    | error m => rw [e] at h; cases h
    | ok o =>
      rw [e] at h
      cases e2 : goAll f a with
      | error m => rw [e2] at h; cases h
      | ok s =>
        rw [e2] at h
        cases h
        rw [go_app f e2]
        show (match (match goAll f b with | .error e => Except.error e | .ok t => .ok (s ++ t)) with | .error e => Except.error e | .ok r => _) = _
        cases goAll f b with
        | error m => rfl
        | ok t => cases o <;> rfl
theorem go_step {α : Type} {f : α → Except Str (Option Dat)} {xs : List α} {j : Nat} {x : α} {pre : List Dat} {o : Option Dat} (h : goAll f (xs.take j) = .ok pre) (hx : xs[j]? = some x) (e : f x = .ok o) : goAll f (xs.take (j + 1)) = .ok (pre ++ o.toList) := by
  have hj := (List.getElem?_eq_some_iff.mp hx)
  rw [List.take_succ_eq_append_getElem hj.1, go_app f h, hj.2, goAll, e, goAll]
  cases o <;> rfl
theorem go_err {α : Type} {f : α → Except Str (Option Dat)} {xs : List α} {j : Nat} {x : α} {pre : List Dat} {m : Str} (h : goAll f (xs.take j) = .ok pre) (hx : xs[j]? = some x) (e : f x = .error m) : goAll f xs = .error m := by
  have hj := (List.getElem?_eq_some_iff.mp hx)
  have q := go_app f (b := xs.drop j) h
  rw [List.take_append_drop, List.drop_eq_getElem_cons hj.1, goAll, hj.2, e] at q
  exact q
/-- one value each -/
def sm (r : Rs) : Except Str (Option Dat) := onOk r fun d => .ok (some d)
def Exs.toL : Exs → List Ex
  | .nil => [] | .cons x r => x :: r.toL
theorem evs_go (o : Int) (ks : List Str) (ds : List Dat) : ∀ xs : Exs, evs o xs ks ds = goAll (fun x => sm (ev o x ks ds)) xs.toL
  | .nil => by rw [evs]; rfl
  | .cons x r => by
    rw [evs, Exs.toL, goAll, evs_go o ks ds r]
    cases ev o x ks ds with
    | error m => rfl
    | ok d =>
      show (match goAll _ r.toL with | .error m => _ | .ok vs => _) = match goAll _ r.toL with | .error e => _ | .ok r => _
      cases goAll (fun x => sm (ev o x ks ds)) r.toL <;> rfl
theorem Exs.mem : ∀ {xs : Exs} {x : Ex} {ks : List Str}, x ∈ xs.toL → xs.ok ks → x.ok ks ∧ x.lvl ≤ xs.lvl
  | .nil, _, _, h, _ => by cases h
  | .cons y r, x, ks, h, k => by
    rw [Exs.ok] at k
    rw [Exs.lvl]
    rcases List.mem_cons.mp h with e | m
    · rw [e]
      exact ⟨k.1, Nat.le_max_left _ _⟩
    · exact ⟨(Exs.mem m k.2).1, Nat.le_trans (Exs.mem m k.2).2 (Nat.le_max_right _ _)⟩
theorem EReps.get {H : Hp} : ∀ {us : List V} {xs : Exs} {i : Nat} {v : V}, EReps H us xs → us[i]? = some v → ∃ x, xs.toL[i]? = some x ∧ ERep H v x
  | _, _, 0, v, .cons h _, e => by
    simp only [List.getElem?_cons_zero, Option.some.injEq] at e
    subst e
    exact ⟨_, rfl, h⟩
  | _, _, i + 1, v, .cons _ r, e => by
    simp only [List.getElem?_cons_succ] at e
    obtain ⟨x, h1, h2⟩ := EReps.get (i := i) r e
    exact ⟨x, h1, h2⟩
theorem EReps.len {H : Hp} : ∀ {us : List V} {xs : Exs}, EReps H us xs → us.length = xs.toL.length ∧ us.length = xs.len
  | _, _, .nil => ⟨rfl, rfl⟩
  | _, _, .cons _ r => ⟨congrArg (· + 1) r.len.1, congrArg (· + 1) r.len.2⟩
theorem ERecs.get {H : Hp} : ∀ {us : List V} {ns : List Str} {xs : Exs} {i : Nat} {v : V}, ERecs H us ns xs → us[i]? = some v → ∃ p n u x, v = .ref p ∧ H p = some (.tup [.str n, u]) ∧ ns[i]? = some n ∧ xs.toL[i]? = some x ∧ ERep H u x
  | _, _, _, 0, v, .cons hp h _, e => by
    simp only [List.getElem?_cons_zero, Option.some.injEq] at e
    subst e
    exact ⟨_, _, _, _, rfl, hp, rfl, rfl, h⟩
  | _, _, _, i + 1, v, .cons _ _ r, e => by
    simp only [List.getElem?_cons_succ] at e
    obtain ⟨p, n, u, x, h1, h2, h3, h4, h5⟩ := ERecs.get (i := i) r e
    exact ⟨p, n, u, x, h1, h2, h3, h4, h5⟩
theorem ERecs.len {H : Hp} : ∀ {us : List V} {ns : List Str} {xs : Exs}, ERecs H us ns xs → us.length = xs.toL.length ∧ us.length = ns.length
  | _, _, _, .nil => ⟨rfl, rfl⟩
  | _, _, _, .cons _ _ r => ⟨congrArg (· + 1) r.len.1, congrArg (· + 1) r.len.2⟩
/-- elements that lay values of their own, one after the other, each may raise -/
theorem lc_run {α : Type} {J : It} {n i : Nat} {G : Hp → Prop} {Y : Nat → Hp → V → Hp → Prop} {te : TE} {σ : L2.St} {H1 : Hp} {Q : VK} (w : Walk J n G Y) (f : α → Rs) (xs : List α) (hl : xs.length = n) (hz : n < sizeLine) (hG : ∀ H, Same H1 H → G H)
    (el : ∀ j x H H' (Qk : VK) pre, j < n → Same H1 H → Y j H x H' → goAll (fun x => sm (f x)) (xs.take j) = .ok pre → H' = H ∧ ((∀ e d, xs[j]? = some e → f e = .ok d → ∀ y H4, Same H H4 → Fresh H H4 y d → Qk y H4) → te ((wipe σ [i]).set i (some x)) H Qk))
    (fin : ∀ D H' ds, goAll (fun x => sm (f x)) xs = .ok ds → Same H1 H' → Fresh H1 H' (.ref D) (.lst ds) → Q (.ref D) H') : lcGo J (gName i) tYes te [i] σ Q H1 := by
  intro D hD
  refine lc_it w (Pv := fun j H => ∃ acc pre, H D = some (.lst acc) ∧ acc.length = j ∧ Same H1 H ∧ Freshs (upd H1 D (.lst [])) H acc pre ∧ goAll (fun x => sm (f x)) (xs.take j) = .ok pre) ⟨[], [], upd_same, rfl, same_new hD _, .nil _ _, by rw [List.take_zero]; rfl⟩
    (fun j H _ ⟨_, _, _, _, s, _⟩ => hG H s) (fun j x H H' hj ⟨acc, pre, p1, p2, p3, p4, p5⟩ y => ?_) (fun H ⟨acc, pre, p1, p2, p3, p4, p5⟩ => ?_)
  · have hy : j < xs.length := by omega
    obtain ⟨rfl, q⟩ := el j x H H' (fun y H4 => ∃ acc, H4 D = some (.lst acc) ∧ acc.length < sizeLine ∧ ∃ acc' pre', (upd H4 D (.lst (acc ++ [y]))) D = some (.lst acc') ∧ acc'.length = j + 1 ∧ Same H1 (upd H4 D (.lst (acc ++ [y]))) ∧ Freshs (upd H1 D (.lst [])) (upd H4 D (.lst (acc ++ [y]))) acc' pre' ∧ goAll (fun x => sm (f x)) (xs.take (j + 1)) = .ok pre') pre hj p3 y p5
    refine ⟨wipe_one σ i _, yes_ (q fun e d he hd y H4 s4 f4 => ⟨acc, s4 _ _ p1, by omega, acc ++ [y], pre ++ [d], upd_same, by rw [List.length_append, p2]; rfl, same_upd (p3.trans s4) hD, grow_fresh p1 p3 p4 s4 f4 hD, ?_⟩)⟩
    exact go_step p5 he (by show sm (f e) = .ok (some d); rw [hd]; rfl)
  · rw [← hl, List.take_length] at p5
    exact fin D H pre p5 p3 (top_fresh p4 hD fun F o => .lst p1 o)
/-! ### texts that are compared -/
section
variable {t r : TS} {D : Ends} {σ : L2.St} {H : Hp} {te : TE} {x : Str}
theorem ifvF {y : Str} (hv : Val te σ H (.str x)) (hn : decide (V.str x = V.str y) = false) (b : r D σ H) : tSeq (tIfS (tTest (tOp rEq te (tC (.str y)))) t tNext) r D σ H :=
  if_pureN (p := false) (fun Q q => hv _ ⟨rfl, _, congrArg V.bl hn, q⟩) (fun h => by cases h) fun _ => b
theorem ifvT {y : Str} (hv : Val te σ H (.str x)) (hn : decide (V.str x = V.str y) = true) (b : t { D with nx := r D } σ H) : tSeq (tIfS (tTest (tOp rEq te (tC (.str y)))) t tNext) r D σ H :=
  if_pureN (p := true) (fun Q q => hv _ ⟨rfl, _, congrArg V.bl hn, q⟩) (fun _ => b) fun h => by cases h
theorem ifvI {u : TS} {y : Str} {p : Bool} (hv : Val te σ H (.str x)) (hn : decide (V.str x = V.str y) = p) (a : p = true → t D σ H) (b : p = false → u D σ H) : tIfS (tTest (tOp rEq te (tC (.str y)))) t u D σ H :=
  if_pure (p := p) (fun Q q => hv _ ⟨rfl, _, congrArg V.bl hn, q⟩) a b
theorem ifvE {u : TS} {y : Str} {p : Bool} (hv : Val te σ H (.str x)) (hn : decide (V.str x = V.str y) = p) (a : p = true → t { D with nx := r D } σ H) (b : p = false → u { D with nx := r D } σ H) : tSeq (tIfS (tTest (tOp rEq te (tC (.str y)))) t u) r D σ H :=
  ifvI (D := { D with nx := r D }) hv hn a b
theorem ifv2F {y z : Str} (hv : Val te σ H (.str x)) (hn : decide (V.str x = V.str y) = false) (hm : decide (V.str x = V.str z) = false) (b : r D σ H) : tSeq (tIfS (tOr (tTest (tOp rEq te (tC (.str y)))) (tTest (tOp rEq te (tC (.str z))))) t tNext) r D σ H :=
  if_pureN (p := false || false) (PureT.or (fun Q q => hv _ ⟨rfl, _, congrArg V.bl hn, q⟩) fun _ Q q => hv _ ⟨rfl, _, congrArg V.bl hm, q⟩) (fun h => by cases h) fun _ => b
theorem ifv2T {y z : Str} {p q : Bool} (hv : Val te σ H (.str x)) (hn : decide (V.str x = V.str y) = p) (hm : decide (V.str x = V.str z) = q) (hpq : (p || q) = true) (b : t { D with nx := r D } σ H) : tSeq (tIfS (tOr (tTest (tOp rEq te (tC (.str y)))) (tTest (tOp rEq te (tC (.str z))))) t tNext) r D σ H :=
  if_pureN (p := p || q) (PureT.or (fun Q q => hv _ ⟨rfl, _, congrArg V.bl hn, q⟩) fun _ Q q => hv _ ⟨rfl, _, congrArg V.bl hm, q⟩) (fun _ => b) fun h => by rw [hpq] at h; cases h
end
theorem val_var {σ : L2.St} {H : Hp} {i : Nat} {v : V} (h : σ[i]? = some (some v)) : Val (tVar i) σ H v := fun Q q => ⟨_, h, q⟩
theorem val_tup {K : PySem.W.Frag} {σ : L2.St} {H : Hp} {i : Nat} {A : Addr} {ws : List V} {v : V} (j : Nat) (h1 : σ[i]? = some (some (.ref A))) (hA : H A = some (.tup ws)) (e : ws[j]? = some v) : Val (tOp (rIxT K) (tVar i) (tC (.int ((j : Nat) : Int)))) σ H v := fun Q q => at_tup j h1 hA e q
def isPart : Ex → Prop
  | .neg _ => True
  | .not _ => True
  | .field _ _ => True
  | .item _ _ => True
  | _ => False
section
variable {w : World} {K : PySem.W.Frag} {mg : Str → Option Value} {base : Heap} {n k : Nat} {C Vw fI cc cda : Addr}
abbrev s_evaluate_all : Stmt := topS 59
theorem sc_evaluate_all : FnScope ["expressions", "environment", "owner", "expression"] ["expressions", "environment", "owner"] (defScope s_evaluate_all) := ⟨rfl, rfl, rfl, by decide +kernel, rfl, by decide +kernel, by decide +kernel⟩
theorem cal_evaluate_all (D : DefA K mg "evaluate_all" s_evaluate_all) (c_evaluate : Cal PP w K mg base (CX PP w) k "evaluate" ["expression", "environment", "owner"] (spEv C n)) : Cal PP w K mg base (CX PP w) (k + 1) "evaluate_all" ["expressions", "environment", "owner"] (spEvs C n) := by
  refine cal_mk D sc_evaluate_all (fun _ _ _ _ _ _ us hl => match us, hl with | [_, _, _], _ => rfl) (fun vs H Q E h => ?_) (fun f cdv A outer s H vs Q E hr h => ?_)
  · obtain ⟨l, us, a, o, xs, ks, ds, rfl, _⟩ := h
    rfl
  obtain ⟨l, us, a, o, xs, ks, ds, rfl, hl, R, ok, lv, sm1, I, q1, q2⟩ := h
  refine ⟨_, (pss_one (ps_ret (pe_lcX (own := [("expression", 3)]) (g := gName 3) (tt := tYes) rfl sc_evaluate_all.nd rfl rfl (takes_of rfl rfl rfl rfl) (pi_list (pv 0)) (blkOk_by (N := ["expressions", "environment", "owner", "expression"]) (sc := defScope s_evaluate_all) (by decide +kernel)) (fun _ _ _ _ _ => pg_name (i := 3) sc_evaluate_all.nd rfl (Or.inl rfl)) (fun _ _ _ _ _ => pts_nil) (fun _ _ _ _ _ _ hx => (pe_calS c_evaluate hr (by rfl) hx (pa_cons (pv 3) (pa_cons (pv 1) (pa_cons (pv 2) pa_nil)))))))), ?_⟩
  have ln := R.len
  refine ⟨_, rfl, l, rfl, ⟨us, .inl (.inl hl)⟩, ?_⟩
  refine lc_run walk_list (fun x => ev o x ks ds) xs.toL ln.1.symm (by rw [ln.2]; exact small1000 sm1) (fun H2 s => .inl (.inl (s _ _ hl))) (fun j x H2 H' Qk pre hj s2 hy hp => ⟨hy.1, fun qk => ?_⟩) fun D H' ds' hd s f => q1 _ (by rw [evs_go]; exact hd) D H' s f
  obtain ⟨e, he, r⟩ := R.get hy.2
  have m := Exs.mem (List.mem_of_getElem? he) ok
  refine ⟨_, rfl, _, rfl, _, rfl, ev_call (r.mono (rds_of s2)) m.1 (by omega) (I.mono (rds_of s2)) (fun d hd bd u H4 s4 f4 => qk e d he hd u H4 s4 f4) fun mm hm => (q2 mm ?_).later s2⟩
  rw [evs_go]
  exact go_err hp he (by show sm (ev o e ks ds) = _; rw [hm]; rfl)
abbrev s_evaluate_part : Stmt := topS 64
theorem sc_evaluate_part : FnScope ["expression", "environment", "owner", "first"] ["expression", "environment", "owner"] (defScope s_evaluate_part) := ⟨rfl, rfl, rfl, by decide +kernel, rfl, by decide +kernel, by decide +kernel⟩
theorem cal_evaluate_part (D : DefA K mg "evaluate_part" s_evaluate_part) (z : Nm mg) (hk : 3 ≤ k) (c_need_boolean : Cal PP w K mg base (CX PP w) 2 "need_boolean" ["value"] (spNeed C .boolean "not true or false")) (c_need_number : Cal PP w K mg base (CX PP w) 2 "need_number" ["value"] (spNeed C .number "not a number"))
    (c_bounded_number : Cal PP w K mg base (CX PP w) 2 "bounded_number" ["number"] (spBN C)) (c_field_of : Cal PP w K mg base (CX PP w) 2 "field_of" ["value", "name"] (spField C)) (c_at_place : Cal PP w K mg base (CX PP w) 3 "at_place" ["value", "place"] (spAt C))
    (c_evaluate : Cal PP w K mg base (CX PP w) k "evaluate" ["expression", "environment", "owner"] (spEv C n)) : Cal PP w K mg base (CX PP w) (k + 1) "evaluate_part" ["expression", "environment", "owner"] (spEvP C isPart (n + 1)) := by
  have c_need_boolean := c_need_boolean.mono (show 2 ≤ k by omega)
  have c_need_number := c_need_number.mono (show 2 ≤ k by omega)
  have c_bounded_number := c_bounded_number.mono (show 2 ≤ k by omega)
  have c_field_of := c_field_of.mono (show 2 ≤ k by omega)
  have c_at_place := c_at_place.mono hk
  refine cal_mk D sc_evaluate_part (fun _ _ _ _ _ _ us hl => match us, hl with | [_, _, _], _ => rfl) (fun vs H Q E h => ?_) (fun f cdv A outer s H vs Q E hr h => ?_)
  · obtain ⟨v, a, o, x, ks, ds, rfl, _⟩ := h
    rfl
  obtain ⟨v, a, o, x, ks, ds, rfl, R, px, ok, lv, I, q⟩ := h
  refine ⟨_, (pss_cons (ps_set (i := 3) sc_evaluate_part.nd rfl (Or.inl rfl) (pe_calS c_evaluate hr (by rfl) (fun σ => passAt (takes_of rfl rfl rfl rfl) σ) (pa_cons (pe_ix ix_tup (pv 0) pe_int (fun _ _ => rfl)) (pa_cons (pv 1) (pa_cons (pv 2) pa_nil)))))
    (pss_cons (ps_if (pt_cmpR op_eq (pe_ix ix_tup (pv 0) pe_int (fun _ _ => rfl)) pe_str (nomark _)) (pss_one (ps_ret (pe_not (pe_calS c_need_boolean hr (by rfl) (fun σ => passAt (takes_of rfl rfl rfl rfl) σ) (pa_cons (pv 3) pa_nil))))) pss_nil)
    (pss_cons (ps_if (pt_cmpR op_eq (pe_ix ix_tup (pv 0) pe_int (fun _ _ => rfl)) pe_str (nomark _)) (pss_one (ps_ret (pe_calS c_bounded_number hr (by rfl) (fun σ => passAt (takes_of rfl rfl rfl rfl) σ) (pa_cons (pe_un un_neg (pe_calS c_need_number hr (by rfl) (fun σ => passAt (takes_of rfl rfl rfl rfl) σ) (pa_cons (pv 3) pa_nil))) pa_nil)))) pss_nil)
    (pss_cons (ps_if (pt_cmpR op_eq (pe_ix ix_tup (pv 0) pe_int (fun _ _ => rfl)) pe_str (nomark _)) (pss_one (ps_ret (pe_calS c_field_of hr (by rfl) (fun σ => passAt (takes_of rfl rfl rfl rfl) σ) (pa_cons (pv 3) (pa_cons (pe_ix ix_tup (pv 0) pe_int (fun _ _ => rfl)) pa_nil))))) pss_nil)
    (pss_one (ps_ret (pe_calS c_at_place hr (by rfl) (fun σ => passAt (takes_of rfl rfl rfl rfl) σ) (pa_cons (pv 3) (pa_cons (pe_calS c_evaluate hr (by rfl) (fun σ => passAt (takes_of rfl rfl rfl rfl) σ) (pa_cons (pe_ix ix_tup (pv 0) pe_int (fun _ _ => rfl)) (pa_cons (pv 1) (pa_cons (pv 2) pa_nil)))) pa_nil))))))))), ?_⟩
  have I' := I.less (Nat.le_succ n)
  cases R with
  | @neg A v x hA r1 =>
    rw [Ex.ok] at ok
    rw [Ex.lvl] at lv
    rw [ev] at q
    refine setS (sub_ev 1 rfl hA rfl rfl rfl r1 ok (by omega) I' (fun d1 e1 b1 v1 H1 s1 f1 => ?_) fun m e1 => q.2 m (by rw [e1]; rfl))
    rw [e1, onOk_v] at q
    have hA2 := s1 _ _ hA
    refine ifvF (val_tup 0 rfl hA2 rfl) (by decide +kernel) (ifvT (val_tup 0 rfl hA2 rfl) (by decide +kernel) ?_)
    refine ⟨_, rfl, v1, d1, rfl, f1.rep, fun k1 => ?_, fun k1 => (q.2 "not a number" (by cases d1 <;> first | rfl | exact absurd rfl k1)).later s1⟩
    cases f1.rep with
    | int i => exact ⟨i, rfl, -i, rfl, fun d' hd H' s' => q.1 d' hd _ _ (s1.trans s') (by
        have e' : d' = .int (-i) := by unfold boundN at hd; split at hd <;> cases hd; rfl
        exact e' ▸ fresh_int _ _ _), fun m hm => (q.2 m hm).later s1⟩
    | _ => cases k1
  | @not A v x hA r1 =>
    rw [Ex.ok] at ok
    rw [Ex.lvl] at lv
    rw [ev] at q
    refine setS (sub_ev 1 rfl hA rfl rfl rfl r1 ok (by omega) I' (fun d1 e1 b1 v1 H1 s1 f1 => ?_) fun m e1 => q.2 m (by rw [e1]; rfl))
    rw [e1, onOk_v] at q
    have hA2 := s1 _ _ hA
    refine ifvT (val_tup 0 rfl hA2 rfl) (by decide +kernel) ?_
    refine ⟨_, rfl, v1, d1, rfl, f1.rep, fun k1 => ?_, fun k1 => (q.2 _ (asBl_e k1 _)).later s1⟩
    cases f1.rep with
    | bl b => exact ⟨b, rfl, q.1 _ rfl _ _ s1 (fresh_bl _ _ _)⟩
    | _ => cases k1
  | @field A v y x hA r1 =>
    rw [Ex.ok] at ok
    rw [Ex.lvl] at lv
    rw [ev] at q
    refine setS (sub_ev 1 rfl hA rfl rfl rfl r1 ok.2 (by omega) I' (fun d1 e1 b1 v1 H1 s1 f1 => ?_) fun m e1 => q.2 m (by rw [e1]; rfl))
    rw [e1, onOk_v] at q
    have hA2 := s1 _ _ hA
    refine ifvF (val_tup 0 rfl hA2 rfl) (by decide +kernel) (ifvF (val_tup 0 rfl hA2 rfl) (by decide +kernel) (ifvT (val_tup 0 rfl hA2 rfl) (by decide +kernel) ?_))
    exact ⟨_, rfl, at_tup 2 rfl hA2 rfl ⟨H, v1, y, d1, rfl, f1, Nat.le_trans ok.1 (by decide), q.later s1⟩⟩
  | @item A v u x y hA r1 r2 =>
    rw [Ex.ok] at ok
    rw [Ex.lvl] at lv
    rw [ev] at q
    refine setS (sub_ev 1 rfl hA rfl rfl rfl r1 ok.1 (by omega) I' (fun d1 e1 b1 v1 H1 s1 f1 => ?_) fun m e1 => q.2 m (by rw [e1]; rfl))
    rw [e1, onOk_v] at q
    have hA2 := s1 _ _ hA
    refine ifvF (val_tup 0 rfl hA2 rfl) (by decide +kernel) (ifvF (val_tup 0 rfl hA2 rfl) (by decide +kernel) (ifvF (val_tup 0 rfl hA2 rfl) (by decide +kernel) ?_))
    refine ⟨_, rfl, sub_ev 2 rfl hA2 rfl rfl rfl (r2.mono (rds_of s1)) ok.2 (by omega) (I'.mono (rds_of s1)) (fun d2 e2 b2 v2 H2 s2 f2 => ?_) fun m e2 => (q.2 m (by rw [e2]; rfl)).later s1⟩
    rw [e2, onOk_v] at q
    exact ⟨H, v1, v2, d1, d2, rfl, f1.same s2, f2.rep, b1.wd, q.later (s1.trans s2)⟩
  | _ => exact px.elim
end
end Vk
set_option maxHeartbeats 4000000
/-! evaluate: gatherings, what is made, all of it -/
namespace Vk
open PySem PySem.Spec PyProof.Rows L2
theorem map_not {y : Str} {v : V} : ∀ {kvs : List (Key × V)}, Sum.inr y ∉ kvs.map (·.1) → (kvs.map fun kv => if kv.1 = Sum.inr y then (kv.1, v) else kv) = kvs
  | [], _ => rfl
  | p :: r, h => by
    rw [List.map_cons, List.mem_cons, not_or] at h
    rw [List.map_cons, map_not h.2, if_neg (fun e => h.1 e.symm)]
theorem map_put {H : Hp} {y : Str} {v : V} {m : Dat} (hv : Rep H v m) : ∀ {kvs : List (Key × V)} {ks : List Str} {ds : List Dat}, ks.Nodup → kvs.map (·.1) = ks.map Sum.inr → Reps H (kvs.map (·.2)) ds → y ∈ ks →
    Reps H ((kvs.map fun kv => if kv.1 = Sum.inr y then (kv.1, v) else kv).map (·.2)) (putDs ks ds y m)
  | _, [], _, _, _, _, h => by cases h
  | [], _ :: _, _, _, hk, _, _ => by cases hk
  | p :: kvs, k :: ks, ds, nd, hk, r, h => by
    rw [List.map_cons] at hk r
    cases r with
    | @cons _ d _ ds r0 r =>
      rw [List.map_cons, List.cons.injEq] at hk
      rw [List.nodup_cons] at nd
      rw [List.map_cons, List.map_cons]
      by_cases e : k = y
      · have ep : p.1 = Sum.inr y := hk.1.trans (congrArg Sum.inr e)
        have nm : Sum.inr y ∉ kvs.map (·.1) := fun q => by
          rw [hk.2] at q
          obtain ⟨x, hx, e2⟩ := List.mem_map.mp q
          cases e2
          exact nd.1 (by rw [e]; exact hx)
        rw [map_not nm, if_pos ep]
        unfold putDs
        rw [if_pos e]
        exact .cons hv r
      · have ep : ¬ p.1 = Sum.inr y := fun q => e (Sum.inr.inj (hk.1.symm.trans q))
        rw [if_neg ep]
        unfold putDs
        rw [if_neg e]
        exact .cons r0 (map_put hv nd.2 hk.2 r ((List.mem_cons.mp h).elim (fun q => absurd q.symm e) id))
/-- a name given a value -/
theorem put_rep {H : Hp} {y : Str} {v : V} {m : Dat} (hv : Rep H v m) {kvs : List (Key × V)} {ks : List Str} {ds : List Dat} (nd : ks.Nodup) (hk : kvs.map (·.1) = ks.map Sum.inr) (r : Reps H (kvs.map (·.2)) ds) :
    (putK kvs (Sum.inr y) v).map (·.1) = (putKs ks y).map Sum.inr ∧ Reps H ((putK kvs (Sum.inr y) v).map (·.2)) (putDs ks ds y m) := by
  have lnk := keys_len hk
  have lnr := r.length
  rw [List.length_map] at lnr
  by_cases hy : y ∈ ks
  · have hm : Sum.inr y ∈ kvs.map (·.1) := by rw [hk]; exact List.mem_map.mpr ⟨y, hy, rfl⟩
    have hany : (kvs.any fun kv => decide (kv.1 = Sum.inr y)) = true := by
      obtain ⟨p, hp, e⟩ := List.mem_map.mp hm
      exact List.any_eq_true.mpr ⟨p, hp, decide_eq_true e⟩
    have e1 : putK kvs (Sum.inr y) v = kvs.map fun kv => if kv.1 = Sum.inr y then (kv.1, v) else kv := by
      unfold putK
      exact if_pos hany
    have e2 : putKs ks y = ks := if_pos hy
    rw [e1, e2]
    refine ⟨?_, map_put hv nd hk r hy⟩
    rw [List.map_map, ← hk]
    refine List.map_congr_left fun p _ => ?_
    show (if p.1 = Sum.inr y then (p.1, v) else p).1 = p.1
    split <;> rfl
  · have hn : valV kvs (Sum.inr y) = none := valV_fresh fun h => by
      rw [hk] at h
      obtain ⟨x, hx, e⟩ := List.mem_map.mp h
      cases e
      exact hy hx
    have e2 : putKs ks y = ks ++ [y] := if_neg hy
    rw [putK_new _ hn, e2, putDs_out (by omega) hy, List.map_append, List.map_append, hk, List.map_append]
    exact ⟨rfl, r.app (.cons hv .nil)⟩
theorem Freshs.off {H H4 : Hp} {L : Addr} {o0 o2 : HO} {vs : List V} {ds : List Dat} (f : Freshs (upd H L o0) H4 vs ds) : Freshs (upd H L o0) (upd H4 L o2) vs ds := by
  obtain ⟨F, o, n, z⟩ := f
  refine ⟨F, o.at fun a ha => upd_ne fun e => ?_, n, z⟩
  have := z a ha
  rw [e, upd_same] at this
  cases this
noncomputable def fG (o : Int) (g : Ex) (y : Str) (ks : List Str) (ds : List Dat) : Option Ex → Dat → Except Str (Option Dat)
  | none, m => sm (ev o g (putKs ks y) (putDs ks ds y m))
  | some c, m => onOk (ev o c (putKs ks y) (putDs ks ds y m)) fun d => asBl d fun t => if t = true then sm (ev o g (putKs ks y) (putDs ks ds y m)) else .ok none
def isGather : Ex → Prop
  | .gather _ _ _ => True
  | .gatherIf _ _ _ _ => True
  | _ => False
def isMade : Ex → Prop
  | .lst _ => True
  | .rcd _ _ => True
  | .act _ _ => True
  | _ => False
/-- both ways to gather, as one -/
theorem gather_one {H : Hp} {v : V} {x : Ex} {ks : List Str} {n : Nat} (px : isGather x) (R : ERep H v x) (ok : x.ok ks) (lv : x.lvl ≤ n + 1) : ∃ A g y row c vg vr vc, v = .ref A ∧ H A = some (.tup [.str "gather", vg, .str y, vr, vc]) ∧ ERep H vg g ∧ ERep H vr row ∧
    ((c = none ∧ vc = .non) ∨ ∃ b e, c = some e ∧ vc = .ref b ∧ ERep H (.ref b) e ∧ e.ok (putKs ks y) ∧ e.lvl ≤ n) ∧ y.length ≤ 100 ∧ row.ok ks ∧ g.ok (putKs ks y) ∧ row.lvl ≤ n ∧ g.lvl ≤ n ∧
    ∀ o ds, ev o x ks ds = onOk (ev o row ks ds) fun d => asLst d fun ms => onOks (goAll (fG o g y ks ds c) ms) fun vs => made (.lst vs) := by
  cases R with
  | @gather A vg vr y g row hA r1 r2 =>
    rw [Ex.ok] at ok
    rw [Ex.lvl] at lv
    exact ⟨A, g, y, row, none, vg, vr, .non, rfl, hA, r1, r2, .inl ⟨rfl, rfl⟩, ok.1, ok.2.1, ok.2.2, by omega, by omega, fun o ds => by rw [ev]; rfl⟩
  | @gatherIf A b vg vr y g row c hA r1 r2 r3 =>
    rw [Ex.ok] at ok
    rw [Ex.lvl] at lv
    exact ⟨A, g, y, row, some c, vg, vr, .ref b, rfl, hA, r1, r2, .inr ⟨b, c, rfl, rfl, r3, ok.2.2.2, by omega⟩, ok.1, ok.2.1, ok.2.2.1, by omega, by omega, fun o ds => by rw [ev]; rfl⟩
  | _ => exact px.elim
theorem depL_bd : ∀ {ds : List Dat}, (∀ d ∈ ds, Bd d) → depL ds ≤ 20
  | [], _ => Nat.zero_le _
  | d :: r, h => Nat.max_le.mpr ⟨(h d List.mem_cons_self).dep, depL_bd fun e he => h e (List.mem_cons_of_mem _ he)⟩
theorem small2 {n : Nat} (h : n ≤ 5000) : n < sizeLine := Nat.lt_of_le_of_lt h (by decide)
/-- a gathering after j members -/
def GPv (H : Hp) (A a L r : Addr) (o : Int) (f : Dat → Except Str (Option Dat)) (ms : List Dat) (vs : List V) (j : Nat) (σ : L2.St) (H' : Hp) : Prop :=
  ∃ acc pre x5 x6, σ = [some (.ref A), some (.ref a), some (.int o), some (.ref L), x5, x6] ∧ H' L = some (.lst acc) ∧ Same H H' ∧ H' r = some (.lst vs) ∧ Freshs (upd H L (.lst [])) H' vs ms ∧ Freshs (upd H L (.lst [])) H' acc pre ∧ goAll f (ms.take j) = .ok pre ∧ acc.length ≤ j
section
variable {w : World} {K : PySem.W.Frag} {mg : Str → Option Value} {base : Heap} {n k : Nat} {C Vw fI cc cda : Addr}
abbrev s_evaluate_gathering : Stmt := topS 62
theorem sc_evaluate_gathering : FnScope ["expression", "environment", "owner", "found", "member", "inner"] ["expression", "environment", "owner"] (defScope s_evaluate_gathering) := ⟨rfl, rfl, rfl, by decide +kernel, rfl, by decide +kernel, by decide +kernel⟩
theorem cal_evaluate_gathering (D : DefA K mg "evaluate_gathering" s_evaluate_gathering) (z : Nm mg) (hk : 41 ≤ k) (c_need_boolean : Cal PP w K mg base (CX PP w) 2 "need_boolean" ["value"] (spNeed C .boolean "not true or false")) (c_need_list : Cal PP w K mg base (CX PP w) 2 "need_list" ["value"] (spNeed C .list "not a list"))
    (c_bounded : Cal PP w K mg base (CX PP w) 25 "bounded" ["value"] (spBd C)) (c_evaluate : Cal PP w K mg base (CX PP w) k "evaluate" ["expression", "environment", "owner"] (spEv C n)) : Cal PP w K mg base (CX PP w) (k + 1) "evaluate_gathering" ["expression", "environment", "owner"] (spEvP C isGather (n + 1)) := by
  have c_need_boolean := c_need_boolean.mono (show 2 ≤ k by omega)
  have c_need_list := c_need_list.mono (show 2 ≤ k by omega)
  have c_bounded := c_bounded.mono (show 25 ≤ k by omega)
  refine cal_mk D sc_evaluate_gathering (fun _ _ _ _ _ _ us hl => match us, hl with | [_, _, _], _ => rfl) (fun vs H Q E h => ?_) (fun f cdv A outer s H vs Q E hr h => ?_)
  · obtain ⟨v, a, o, x, ks, ds, rfl, _⟩ := h
    rfl
  obtain ⟨v, a, o, x, ks, ds, rfl, R, px, ok, lv, I, q⟩ := h
  have hu := hu_of hr
  obtain ⟨A, g, y, row, c, vg, vr, vc, rfl, hA, rg, rr, rc, ly, okr, okg, lvr, lvg, eq⟩ := gather_one px R ok lv
  rw [eq] at q
  have I' := I.less (Nat.le_succ n)
  refine ⟨_, (pss_cons (ps_set (i := 3) sc_evaluate_gathering.nd rfl (Or.inl rfl) (pe_lst pa_nil))
    (pss_cons (ps_for (passes_of rfl) rfl (pi_list (pe_calS c_need_list hr (by rfl) (fun σ => passAt (takes_of rfl rfl rfl rfl) σ) (pa_cons (pe_calS c_evaluate hr (by rfl) (fun σ => passAt (takes_of rfl rfl rfl rfl) σ) (pa_cons (pe_ix ix_tup (pv 0) pe_int (fun _ _ => rfl)) (pa_cons (pv 1) (pa_cons (pv 2) pa_nil)))) pa_nil))) (pg_name (i := 4) sc_evaluate_gathering.nd rfl (Or.inl rfl)) (pss_cons (ps_set (i := 5) sc_evaluate_gathering.nd rfl (Or.inl rfl) (pe_callTy call_dictD (by rfl) z.dict (by decide +kernel) (pa_cons (pv 1) pa_nil)))
    (pss_cons (ps_dput hu (pv 5) (pe_ix ix_tup (pv 0) pe_int (fun _ _ => rfl)) (pv 4) rfl)
    (pss_one (ps_if (PW.pt (pw_or (pt_cmpR op_isN (pe_ix ix_tup (pv 0) pe_int (fun _ _ => rfl)) pe_non (nomark _)) (pw_or1 (pt_val (pe_calS c_need_boolean hr (by rfl) (fun σ => passAt (takes_of rfl rfl rfl rfl) σ) (pa_cons (pe_calS c_evaluate hr (by rfl) (fun σ => passAt (takes_of rfl rfl rfl rfl) σ) (pa_cons (pe_ix ix_tup (pv 0) pe_int (fun _ _ => rfl)) (pa_cons (pv 5) (pa_cons (pv 2) pa_nil)))) pa_nil)))))) (pss_one (ps_expr (pe_bm PySem.F.plainAttrs_list PySem.F.slot_list_append PySem.F.type_list_append mt_append (pv 3) (pa_cons (pe_calS c_evaluate hr (by rfl) (fun σ => passAt (takes_of rfl rfl rfl rfl) σ) (pa_cons (pe_ix ix_tup (pv 0) pe_int (fun _ _ => rfl)) (pa_cons (pv 5) (pa_cons (pv 2) pa_nil)))) pa_nil)))) pss_nil)))))
    (pss_one (ps_ret (pe_calS c_bounded hr (by rfl) (fun σ => passAt (takes_of rfl rfl rfl rfl) σ) (pa_cons (pv 3) pa_nil)))))), ?_⟩
  refine setS ⟨Nat.zero_le _, fun L hL => ?_⟩
  have sL := same_new hL (.lst [])
  refine sub_ev 3 rfl (sL _ _ hA) rfl rfl rfl (rr.mono (rds_of sL)) okr lvr (I'.mono (rds_of sL)) (fun d1 e1 b1 v1 H1 s1 f1 => ?_) fun m e1 => (q.2 m (by rw [e1]; rfl)).later sL
  rw [e1, onOk_v] at q
  refine ⟨v1, d1, rfl, f1.rep, fun k1 => ?_, fun k1 => (q.2 _ (asLst_e k1 _)).later (sL.trans s1)⟩
  cases d1 with
  | lst ms =>
    obtain ⟨r, rfl⟩ : ∃ r, v1 = .ref r := by cases f1.rep with | lst => exact ⟨_, rfl⟩
    obtain ⟨vs, hr1, fm⟩ := f1.inLst
    have lm := fm.length
    have l2 := lst_len b1
    have rL : r ≠ L := fun e => by
      have : (upd H L (.lst [])) r = none := by
        obtain ⟨F, ow, _, zz⟩ := f1
        cases ow with
        | lst => exact zz _ List.mem_cons_self
      rw [e, upd_same] at this
      cases this
    have q : Res C H H Q E (onOks (goAll (fG o g y ks ds c) ms) fun vs => made (.lst vs)) := q
    refine ⟨r, rfl, ⟨vs, .inl (.inl hr1)⟩, ?_⟩
    refine for_it walk_list (Pv := GPv H A a L r o (fG o g y ks ds c) ms vs)
      ⟨[], [], _, _, rfl, s1 _ _ upd_same, sL.trans s1, hr1, fm, .nil _ _, by rw [List.take_zero]; rfl, Nat.le_refl _⟩ (fun _ _ _ _ ⟨_, _, _, _, _, _, _, h, _⟩ => .inl (.inl h)) (fun j x σ H2 H' hj pv yy => ?_) fun σ H' pv => ?_
    · obtain ⟨acc, pre, x5, x6, rfl, p1, p2, p3, p4, p5, p6, p7⟩ := pv
      obtain ⟨rfl, hx⟩ := yy
      obtain ⟨m, hm, fx⟩ := p4.get hx
      have bm : Bd m := b1.part (d := .lst ms) (List.mem_of_getElem? hm)
      have I3 := I'.mono (rds_of p2)
      obtain ⟨kvs, hk1, hk2, hk3⟩ := I3.env
      refine setS ⟨_, rfl, a, kvs, rfl, hk1, fun p hp => ?_⟩
      obtain ⟨g1, g2⟩ := put_rep fx.rep (y := y) I3.ok.nd hk2 hk3
      have lk := keys_len hk2
      have rm := I3.room
      have hA2 := p2 _ _ hA
      have sN := same_new hp (.dK kvs)
      have hA3 := sN _ _ hA2
      refine ⟨_, rfl, _, rfl, at_tup 2 rfl hA3 rfl ⟨p, _, rfl, .inl ⟨kvs, .inr y, upd_same, rfl, small1000 (by omega), rfl⟩, ?_⟩⟩
      rw [upd_upd]
      have s3 := same_new hp (.dK (putK kvs (Sum.inr y) x))
      have hA4 := s3 _ _ hA2
      have sE := p2.trans s3
      have I4 : EvIn (upd H' p (.dK (putK kvs (Sum.inr y) x))) p (putKs ks y) (putDs ks ds y m) o n :=
        ⟨⟨_, .inl upd_same, g1, g2.mono (rds_of s3)⟩, I3.ok.put (by omega) bm, by have := putKs_len ks y; have := I.room; omega, I3.ob⟩
      have app : ∀ (D' : Ends) H5, (∀ σ H', GPv H A a L r o (fG o g y ks ds c) ms vs (j + 1) σ H' → D'.nx σ H') → Same (upd H' p (.dK (putK kvs (Sum.inr y) x))) H5 → fG o g y ks ds c m = sm (ev o g (putKs ks y) (putDs ks ds y m)) →
          tDrop (tBM K "list" rAppend (tVar 3) (tCons (tCal (spEv C n) (fun cls d H => E cls d H) (tCons (tOp (rIxT K) (tVar 0) (tC (.int 1))) (tCons (tVar 5) (tCons (tVar 2) tNil)))) tNil)) D' [some (.ref A), some (.ref a), some (.int o), some (.ref L), some x, some (.ref p)] H5 := fun D' H5 nx s5 ef =>
        ⟨_, rfl, .inl ⟨rfl, _, .inl (.inl (s5 _ _ (s3 _ _ p1)))⟩, sub_ev 1 rfl (s5 _ _ hA4) rfl rfl rfl (rg.mono (rds_of (sE.trans s5))) okg lvg (I4.mono (rds_of s5)) (fun d6 e6 b6 v6 H6 s6 f6 => by
          have s56 := (s3.trans s5).trans s6
          exact ⟨L, acc, v6, rfl, rfl, s56 _ _ p1, small2 (by omega), nx _ _ ⟨acc ++ [v6], pre ++ [d6], some x, some (.ref p), rfl, upd_same, same_upd (p2.trans s56) hL, by rw [upd_ne rL]; exact s56 _ _ p3, (p4.same s56).off, grow_fresh p1 p2 p5 s56 (f6.older (s3.trans s5)) hL, go_step (o := some d6) p6 hm (by rw [ef, e6]; rfl), by rw [List.length_append]; show acc.length + 1 ≤ j + 1; omega⟩⟩)
          fun mm e6 => (q.2 mm (by rw [go_err p6 hm (m := mm) (by rw [ef, e6]; rfl)]; rfl)).later (sE.trans s5)⟩
      rcases rc with ⟨rfl, rfl⟩ | ⟨b, e, rfl, rfl, re, oke, lve⟩
      · refine at_tup 4 rfl hA4 rfl ⟨rfl, true, congrArg V.bl (decide_eq_true rfl), iteT (iteT ?_)⟩
        exact app _ _ (fun _ _ h => h) (.refl _) rfl
      · have ef : fG o g y ks ds (some e) m = onOk (ev o e (putKs ks y) (putDs ks ds y m)) fun d => asBl d fun t => if t = true then sm (ev o g (putKs ks y) (putDs ks ds y m)) else .ok none := rfl
        refine at_tup 4 rfl hA4 rfl ⟨rfl, false, congrArg V.bl (decide_eq_false fun h => by cases h), iteF (sub_ev (i := 5) 4 rfl hA4 rfl rfl rfl (re.mono (rds_of sE)) oke lve I4 (fun d6 e6 b6 v6 H6 s6 f6 => ?_) fun mm e6 => (q.2 mm (by rw [go_err p6 hm (m := mm) (by rw [ef, e6]; rfl)]; rfl)).later sE)⟩
        rw [e6, onOk_v] at ef
        refine ⟨v6, d6, rfl, f6.rep, fun k2 => ?_, fun k2 => (q.2 _ (by rw [go_err p6 hm (m := "not true or false") (by rw [ef]; exact asBl_e k2 _)]; rfl)).later (sE.trans s6)⟩
        cases f6.rep with
        | bl t =>
          rw [asBl_v] at ef
          refine ⟨t, rfl, ?_⟩
          cases t with
          | true =>
            rw [if_pos rfl] at ef
            exact iteT (app _ _ (fun _ _ h => h) s6 ef)
          | false =>
            rw [if_neg Bool.false_ne_true] at ef
            have s56 := s3.trans s6
            have st := go_step p6 hm ef
            rw [Option.toList_none, List.append_nil] at st
            exact iteF ⟨acc, pre, some x, some (.ref p), rfl, s56 _ _ p1, p2.trans s56, s56 _ _ p3, p4.same s56, p5.same s56, st, by omega⟩
        | _ => cases k2
    · obtain ⟨acc, pre, x5, x6, rfl, p1, p2, p3, p4, p5, p6, p7⟩ := pv
      rw [lm, List.take_length] at p6
      rw [p6, onOks_v] at q
      have fin := top_fresh p5 hL (v := .lst pre) fun F o => .lst p1 o
      have hm : ∀ m ∈ ms, Bd m := fun m hm => b1.part (d := .lst ms) hm
      obtain ⟨g1, g2⟩ := goAll_bd (fun m hmm d hd => by
        have okm := I.ok.put (y := y) (by omega) (hm m hmm)
        rcases rc with ⟨rfl, rfl⟩ | ⟨b, e, rfl, rfl, re, oke, lve⟩
        · obtain ⟨d', h3, h4⟩ := onOk_ok hd
          cases h4
          exact ev_bd I.ob g okg okm h3
        · obtain ⟨d0, h3, h4⟩ := onOk_ok hd
          obtain ⟨t, rfl, h7⟩ := asBl_ok h4
          split at h7
          · obtain ⟨d', h5, h6⟩ := onOk_ok h7
            cases h6
            exact ev_bd I.ob g okg okm h5
          · cases h7) p6
      refine ⟨_, rfl, .ref L, .lst pre, rfl, fin.rep, ⟨by omega, WDL_bd g1⟩, ?_, fun d' hd H3 s3 => ?_, fun mm hmm => (q.2 mm hmm).later p2⟩
      · rw [Dat.dep]
        have := depL_bd g1
        omega
      · have e' : d' = .lst pre := made_ok hd
        exact q.1 d' hd _ _ (p2.trans s3) (e' ▸ fin.same s3)
  | _ => cases k1
end
end Vk
set_option maxHeartbeats 4000000
/-! evaluate: what is made, all of it -/
namespace Vk
open PySem PySem.Spec PyProof.Rows L2
theorem ERecs.lens {H : Hp} : ∀ {us : List V} {ns : List Str} {xs : Exs}, ERecs H us ns xs → us.length = xs.len
  | _, _, _, .nil => rfl
  | _, _, _, .cons _ _ r => congrArg (· + 1) r.lens
def RPv (H : Hp) (A a L : Addr) (o : Int) (f : Ex → Except Str (Option Dat)) (ns : List Str) (xs : List Ex) (j : Nat) (σ : L2.St) (H' : Hp) : Prop :=
  ∃ kvs pre x4 x5, σ = [some (.ref A), some (.ref a), some (.int o), some (.ref L), x4, x5] ∧ H' L = some (.dK kvs) ∧ kvs.map (·.1) = (ns.take j).map Sum.inr ∧ Same H H' ∧ Freshs (upd H L (.dK [])) H' (kvs.map (·.2)) pre ∧ goAll f (xs.take j) = .ok pre
/-- a new name's value -/
theorem put_new {H : Hp} {kvs : List (Key × V)} {ns : List Str} {j : Nat} {y : Str} (v : V) (hk : kvs.map (·.1) = (ns.take j).map Sum.inr) (nd : ns.Nodup) (hy : ns[j]? = some y) : putK kvs (Sum.inr y) v = kvs ++ [(Sum.inr y, v)] ∧ (kvs ++ [((Sum.inr y : Key), v)]).map (·.1) = (ns.take (j + 1)).map Sum.inr := by
  have hj := List.getElem?_eq_some_iff.mp hy
  have nw : valV kvs (Sum.inr y) = none := valV_fresh fun m => by
    rw [hk] at m
    obtain ⟨x, hx, e⟩ := List.mem_map.mp m
    cases e
    have h := nd
    rw [← List.take_append_drop j ns, List.nodup_append] at h
    exact h.2.2 _ hx y (by rw [List.drop_eq_getElem_cons hj.1, hj.2]; exact List.mem_cons_self) rfl
  refine ⟨putK_new _ nw, ?_⟩
  rw [List.map_append, hk, List.take_succ_eq_append_getElem hj.1, List.map_append, hj.2]
  rfl
section
variable {w : World} {K : PySem.W.Frag} {mg : Str → Option Value} {base : Heap} {n k : Nat} {C Vw fI cc cda : Addr}
abbrev s_evaluate_made : Stmt := topS 63
theorem sc_evaluate_made : FnScope ["expression", "environment", "owner", "record", "name", "part"] ["expression", "environment", "owner"] (defScope s_evaluate_made) := ⟨rfl, rfl, rfl, by decide +kernel, rfl, by decide +kernel, by decide +kernel⟩
theorem cal_evaluate_made (D : DefA K mg "evaluate_made" s_evaluate_made) (z : Nm mg) (hk : 41 ≤ k) (c_bounded : Cal PP w K mg base (CX PP w) 25 "bounded" ["value"] (spBd C)) (c_evaluate : Cal PP w K mg base (CX PP w) k "evaluate" ["expression", "environment", "owner"] (spEv C n))
    (c_evaluate_all : Cal PP w K mg base (CX PP w) (k + 1) "evaluate_all" ["expressions", "environment", "owner"] (spEvs C n)) : Cal PP w K mg base (CX PP w) (k + 2) "evaluate_made" ["expression", "environment", "owner"] (spEvP C isMade (n + 1)) := by
  have c_bounded := c_bounded.mono (show 25 ≤ k + 1 by omega)
  have c_evaluate := c_evaluate.mono (show k ≤ k + 1 by omega)
  refine cal_mk D sc_evaluate_made (fun _ _ _ _ _ _ us hl => match us, hl with | [_, _, _], _ => rfl) (fun vs H Q E h => ?_) (fun f cdv A outer s H vs Q E hr h => ?_)
  · obtain ⟨v, a, o, x, ks, ds, rfl, _⟩ := h
    rfl
  obtain ⟨v, a, o, x, ks, ds, rfl, R, px, ok, lv, I, q⟩ := h
  have hu := hu_of hr
  have I' := I.less (Nat.le_succ n)
  refine ⟨_, (pss_cons (ps_if (pt_cmpR op_eq (pe_ix ix_tup (pv 0) pe_int (fun _ _ => rfl)) pe_str (nomark _)) (pss_one (ps_ret (pe_calS c_bounded hr (by rfl) (fun σ => passAt (takes_of rfl rfl rfl rfl) σ) (pa_cons (pe_calS c_evaluate_all hr (by rfl) (fun σ => passAt (takes_of rfl rfl rfl rfl) σ) (pa_cons (pe_ix ix_tup (pv 0) pe_int (fun _ _ => rfl)) (pa_cons (pv 1) (pa_cons (pv 2) pa_nil)))) pa_nil)))) pss_nil)
    (pss_cons (ps_if (pt_cmpR op_eq (pe_ix ix_tup (pv 0) pe_int (fun _ _ => rfl)) pe_str (nomark _)) (pss_one (ps_ret (pe_calS c_bounded hr (by rfl) (fun σ => passAt (takes_of rfl rfl rfl rfl) σ) (pa_cons (pe_tup (pa_cons pe_str (pa_cons (pv 2) (pa_cons (pe_ix ix_tup (pv 0) pe_int (fun _ _ => rfl)) (pa_cons (pe_calS c_evaluate_all hr (by rfl) (fun σ => passAt (takes_of rfl rfl rfl rfl) σ) (pa_cons (pe_ix ix_tup (pv 0) pe_int (fun _ _ => rfl)) (pa_cons (pv 1) (pa_cons (pv 2) pa_nil)))) pa_nil))))) pa_nil)))) pss_nil)
    (pss_cons (ps_set (i := 3) sc_evaluate_made.nd rfl (Or.inl rfl) pe_dnewK)
    (pss_cons (ps_for (passes_of rfl) rfl (pi_list (pe_ix ix_tup (pv 0) pe_int (fun _ _ => rfl))) (pg_tup rfl (pgs_cons (pg_name (i := 4) sc_evaluate_made.nd rfl (Or.inl rfl)) (pgs_cons (pg_name (i := 5) sc_evaluate_made.nd rfl (Or.inl rfl)) pgs_nil))) (pss_one (ps_dput hu (pv 3) (pv 4) (pe_calS c_evaluate hr (by rfl) (fun σ => passAt (takes_of rfl rfl rfl rfl) σ) (pa_cons (pv 5) (pa_cons (pv 1) (pa_cons (pv 2) pa_nil)))) rfl)))
    (pss_one (ps_ret (pe_calS c_bounded hr (by rfl) (fun σ => passAt (takes_of rfl rfl rfl rfl) σ) (pa_cons (pv 3) pa_nil)))))))), ?_⟩
  cases R with
  | @lst A l us xs hA hl R =>
    rw [Ex.ok] at ok
    rw [Ex.lvl] at lv
    rw [ev] at q
    have ln := R.len.2
    refine ifvT (val_tup 0 rfl hA rfl) (by decide +kernel) ?_
    refine at_tup 1 rfl hA rfl ⟨_, rfl, _, rfl, l, us, a, o, xs, ks, ds, rfl, hl, R, ok.2, by omega, by have := ok.1; omega, I', fun rs hrs p H' s f => ?_, fun m hm => q.2 m (by rw [hm]; rfl)⟩
    rw [hrs, onOks_v] at q
    obtain ⟨g1, g2⟩ := evs_bd I.ob xs ok.2 I.ok hrs
    refine ⟨.ref p, .lst rs, rfl, f.rep, ⟨by have := ok.1; omega, WDL_bd g1⟩, ?_, fun d' hd H3 s3 => q.1 d' hd _ _ (s.trans s3) ((made_ok hd) ▸ f.same s3), fun mm hmm => (q.2 mm hmm).later s⟩
    rw [Dat.dep]
    have := depL_bd g1
    omega
  | @act A l nm us xs hA hl R =>
    rw [Ex.ok] at ok
    rw [Ex.lvl] at lv
    rw [ev] at q
    have ln := R.len.2
    refine ifvF (val_tup 0 rfl hA rfl) (by decide +kernel) (ifvT (val_tup 0 rfl hA rfl) (by decide +kernel) ?_)
    refine ⟨_, rfl, at_tup 1 rfl hA rfl (at_tup 2 rfl hA rfl ⟨_, rfl, _, rfl, l, us, a, o, xs, ks, ds, rfl, hl, R, ok.2.2, by omega, by have := ok.2.1; omega, I', fun rs hrs p H' s f => ?_, fun m hm => q.2 m (by rw [hm]; rfl)⟩)⟩
    rw [hrs, onOks_v] at q
    obtain ⟨g1, g2⟩ := evs_bd I.ob xs ok.2.2 I.ok hrs
    refine ⟨by show 4 ≤ sizeLine; decide, fun t ht => ?_⟩
    have fa := f.act (o := o) (n := nm) s ht
    have sN := s.trans (same_new ht (.tup [.str "act", .int o, .str nm, .ref p]))
    refine ⟨.ref t, .act o nm rs, rfl, fa.rep, ⟨I.ob, by have := ok.1; omega, by have := ok.2.1; omega, WDL_bd g1⟩, ?_, fun d' hd H3 s3 => q.1 d' hd _ _ (sN.trans s3) ((made_ok hd) ▸ fa.same s3), fun mm hmm => (q.2 mm hmm).later sN⟩
    rw [Dat.dep]
    have := depL_bd g1
    omega
  | @rcd A l ns us xs hA hl R =>
    rw [Ex.ok] at ok
    rw [Ex.lvl] at lv
    rw [ev] at q
    have ln := R.len
    have ln3 := R.lens
    refine ifvF (val_tup 0 rfl hA rfl) (by decide +kernel) (ifvF (val_tup 0 rfl hA rfl) (by decide +kernel) (setS fun L hL => ?_))
    have sL := same_new hL (.dK [])
    refine at_tup 1 rfl (sL _ _ hA) rfl ⟨l, rfl, ⟨us, .inl (.inl (sL _ _ hl))⟩, ?_⟩
    refine for_it walk_list (Pv := RPv H A a L o (fun x => sm (ev o x ks ds)) ns xs.toL) ⟨[], [], _, _, rfl, upd_same, by rw [List.take_zero]; rfl, sL, .nil _ _, by rw [List.take_zero]; rfl⟩ (fun _ _ _ _ ⟨_, _, _, _, _, _, _, s, _⟩ => .inl (.inl (s _ _ hl))) (fun j x σ H2 H' hj pv yy => ?_) fun σ H' pv => ?_
    · obtain ⟨kvs, pre, x4, x5, rfl, p1, p2, p3, p4, p5⟩ := pv
      obtain ⟨rfl, hx⟩ := yy
      obtain ⟨p, nm, u, e, rfl, hp, hn, he, re⟩ := R.get hx
      have m := Exs.mem (List.mem_of_getElem? he) ok.2.2.2.2
      refine ⟨p, _, rfl, .inl (.inl (p3 _ _ hp)), rfl, _, _, rfl, _, _, rfl, rfl, ?_⟩
      refine ⟨_, rfl, _, rfl, _, rfl, ev_call (re.mono (rds_of p3)) m.1 (by omega) (I'.mono (rds_of p3)) (fun d6 e6 b6 v6 H6 s6 f6 => ?_) fun mm e6 => (q.2 mm (by rw [evs_go, go_err p5 he (m := mm) (by show sm (ev o e ks ds) = _; rw [e6]; rfl)]; rfl)).later p3⟩
      obtain ⟨n1, n2⟩ := put_new (H := H) v6 p2 ok.1 hn
      have lk := keys_len p2
      rw [List.length_take] at lk
      refine ⟨_, rfl, _, rfl, L, _, rfl, .inl ⟨kvs, .inr nm, s6 _ _ p1, rfl, small1000 (by have := ok.2.2.1; omega), rfl⟩, _, pre ++ [d6], _, _, rfl, upd_same, ?_, same_upd (p3.trans s6) hL, ?_, go_step (o := some d6) p5 he (by show sm (ev o e ks ds) = _; rw [e6]; rfl)⟩
      · rw [n1]
        exact n2
      · rw [n1, List.map_append]
        exact grow_fresh p1 p3 p4 s6 f6 hL
    · obtain ⟨kvs, pre, x4, x5, rfl, p1, p2, p3, p4, p5⟩ := pv
      rw [ln.1, List.take_length] at p5
      have hev : evs o xs ks ds = .ok pre := by rw [evs_go]; exact p5
      rw [hev, onOks_v] at q
      obtain ⟨g1, g2⟩ := evs_bd I.ob xs ok.2.2.2.2 I.ok hev
      rw [ln.2, List.take_length] at p2
      have fin := top_fresh p4 hL (v := .rcd ns pre) fun F o => .rcd p1 p2 o
      refine ⟨_, rfl, .ref L, .rcd ns pre, rfl, fin.rep, ⟨ok.1, by rw [g2]; exact ok.2.1, by have := ok.2.2.1; omega, ok.2.2.2.1, WDL_bd g1⟩, ?_, fun d' hd H3 s3 => q.1 d' hd _ _ (p3.trans s3) ((made_ok hd) ▸ fin.same s3), fun mm hmm => (q.2 mm hmm).later p3⟩
      rw [Dat.dep]
      have := depL_bd g1
      omega
  | _ => exact px.elim
/-- the callees of evaluate -/
structure EvC (P : Program) (w : World) (K : PySem.W.Frag) (mg : Str → Option Value) (base : Heap) (C : Addr) : Prop where
  copied : Cal P w K mg base CX0 21 "copied" ["value"] (spCopied 20)
  call : Cal P w K mg base (CX P w) 27 "call_function" ["name", "arguments"] (spCall C)
abbrev s_evaluate : Stmt := topS 65
theorem sc_evaluate : FnScope ["expression", "environment", "owner", "word"] ["expression", "environment", "owner"] (defScope s_evaluate) := ⟨rfl, rfl, rfl, by decide +kernel, rfl, by decide +kernel, by decide +kernel⟩
theorem cal_evaluate (D : DefA K mg "evaluate" s_evaluate) (hk : 41 ≤ k) (c_copied : Cal PP w K mg base CX0 21 "copied" ["value"] (spCopied 20)) (c_call_function : Cal PP w K mg base (CX PP w) 27 "call_function" ["name", "arguments"] (spCall C))
    (c_evaluate_all : Cal PP w K mg base (CX PP w) k "evaluate_all" ["expressions", "environment", "owner"] (spEvs C n)) (c_evaluate_binary : Cal PP w K mg base (CX PP w) k "evaluate_binary" ["expression", "environment", "owner"] (spEvP C isBin (n + 1)))
    (c_evaluate_choice : Cal PP w K mg base (CX PP w) k "evaluate_choice" ["expression", "environment", "owner"] (spEvP C isChoice (n + 1))) (c_evaluate_gathering : Cal PP w K mg base (CX PP w) k "evaluate_gathering" ["expression", "environment", "owner"] (spEvP C isGather (n + 1)))
    (c_evaluate_made : Cal PP w K mg base (CX PP w) k "evaluate_made" ["expression", "environment", "owner"] (spEvP C isMade (n + 1))) (c_evaluate_part : Cal PP w K mg base (CX PP w) k "evaluate_part" ["expression", "environment", "owner"] (spEvP C isPart (n + 1))) :
    Cal PP w K mg base (CX PP w) (k + 1) "evaluate" ["expression", "environment", "owner"] (spEv C (n + 1)) := by
  have c_copied := c_copied.mono (show 21 ≤ k by omega)
  have c_call_function := c_call_function.mono (show 27 ≤ k by omega)
  refine cal_mk D sc_evaluate (fun _ _ _ _ _ _ us hl => match us, hl with | [_, _, _], _ => rfl) (fun vs H Q E h => ?_) (fun f cdv A outer s H vs Q E hr h => ?_)
  · obtain ⟨v, a, o, x, ks, ds, rfl, _⟩ := h
    rfl
  obtain ⟨v, a, o, x, ks, ds, rfl, R, px, ok, lv, I, q⟩ := h
  have hu := hu_of hr
  refine ⟨_, (pss_cons (ps_set (i := 3) sc_evaluate.nd rfl (Or.inl rfl) (pe_ix ix_tup (pv 0) pe_int (fun _ _ => rfl)))
    (pss_cons (ps_if (pt_cmpR op_eq (pv 3) pe_str (nomark _)) (pss_one (ps_ret pe_non)) pss_nil)
    (pss_cons (ps_if (PW.pt (pw_or (pt_cmpR op_eq (pv 3) pe_str (nomark _)) (pw_or1 (pt_cmpR op_eq (pv 3) pe_str (nomark _))))) (pss_one (ps_ret (pe_cmpR op_eq (pv 3) pe_str (nomark _)))) pss_nil)
    (pss_cons (ps_if (PW.pt (pw_or (pt_cmpR op_eq (pv 3) pe_str (nomark _)) (pw_or1 (pt_cmpR op_eq (pv 3) pe_str (nomark _))))) (pss_one (ps_ret (pe_ix ix_tup (pv 0) pe_int (fun _ _ => rfl)))) pss_nil)
    (pss_cons (ps_if (pt_cmpR op_eq (pv 3) pe_str (nomark _)) (pss_one (ps_ret (pe_cal c_copied hr (by rfl) (pa_cons (pe_dget hu (pv 1) (pe_ix ix_tup (pv 0) pe_int (fun _ _ => rfl)) (fun _ _ => rfl)) pa_nil)))) pss_nil)
    (pss_cons (ps_if (pt_cmpR op_eq (pv 3) pe_str (nomark _)) (pss_one (ps_ret (pe_calS c_evaluate_binary hr (by rfl) (fun σ => passAt (takes_of rfl rfl rfl rfl) σ) (pa_cons (pv 0) (pa_cons (pv 1) (pa_cons (pv 2) pa_nil)))))) pss_nil)
    (pss_cons (ps_if (pt_cmpR op_eq (pv 3) pe_str (nomark _)) (pss_one (ps_ret (pe_calS c_evaluate_choice hr (by rfl) (fun σ => passAt (takes_of rfl rfl rfl rfl) σ) (pa_cons (pv 0) (pa_cons (pv 1) (pa_cons (pv 2) pa_nil)))))) pss_nil)
    (pss_cons (ps_if (pt_cmpR op_eq (pv 3) pe_str (nomark _)) (pss_one (ps_ret (pe_calS c_evaluate_gathering hr (by rfl) (fun σ => passAt (takes_of rfl rfl rfl rfl) σ) (pa_cons (pv 0) (pa_cons (pv 1) (pa_cons (pv 2) pa_nil)))))) pss_nil)
    (pss_cons (ps_if (pt_cmpR op_eq (pv 3) pe_str (nomark _)) (pss_one (ps_ret (pe_calS c_call_function hr (by rfl) (fun σ => passAt (takes_of rfl rfl rfl rfl) σ) (pa_cons (pe_ix ix_tup (pv 0) pe_int (fun _ _ => rfl)) (pa_cons (pe_calS c_evaluate_all hr (by rfl) (fun σ => passAt (takes_of rfl rfl rfl rfl) σ) (pa_cons (pe_ix ix_tup (pv 0) pe_int (fun _ _ => rfl)) (pa_cons (pv 1) (pa_cons (pv 2) pa_nil)))) pa_nil))))) pss_nil)
    (pss_cons (ps_if (pt_cmpR op_in_seq (pv 3) (pe_tup (pa_cons pe_str (pa_cons pe_str (pa_cons pe_str pa_nil)))) rfl) (pss_one (ps_ret (pe_calS c_evaluate_made hr (by rfl) (fun σ => passAt (takes_of rfl rfl rfl rfl) σ) (pa_cons (pv 0) (pa_cons (pv 1) (pa_cons (pv 2) pa_nil)))))) pss_nil)
    (pss_one (ps_ret (pe_calS c_evaluate_part hr (by rfl) (fun σ => passAt (takes_of rfl rfl rfl rfl) σ) (pa_cons (pv 0) (pa_cons (pv 1) (pa_cons (pv 2) pa_nil)))))))))))))))), ?_⟩
  have R0 := R
  cases R with
  | null hA =>
    rw [ev] at q
    exact setS (at_tup 0 rfl hA rfl (ifvT (val_var rfl) (by decide +kernel) (q.1 _ rfl _ _ (.refl _) (fresh_non _ _))))
  | tru hA =>
    rw [ev] at q
    exact setS (at_tup 0 rfl hA rfl (ifvF (val_var rfl) (by decide +kernel) (ifv2T (val_var rfl) (p := true) (q := false) (by decide +kernel) (by decide +kernel) rfl ⟨_, rfl, rfl, by
      have e : decide (V.str "true" = V.str "true") = true := by decide +kernel
      rw [e]
      exact q.1 _ rfl _ _ (.refl _) (fresh_bl _ _ _)⟩)))
  | fls hA =>
    rw [ev] at q
    exact setS (at_tup 0 rfl hA rfl (ifvF (val_var rfl) (by decide +kernel) (ifv2T (val_var rfl) (p := false) (q := true) (by decide +kernel) (by decide +kernel) rfl ⟨_, rfl, rfl, by
      have e : decide (V.str "false" = V.str "true") = false := by decide +kernel
      rw [e]
      exact q.1 _ rfl _ _ (.refl _) (fresh_bl _ _ _)⟩)))
  | num hA =>
    rw [ev] at q
    exact setS (at_tup 0 rfl hA rfl (ifvF (val_var rfl) (by decide +kernel) (ifv2F (val_var rfl) (by decide +kernel) (by decide +kernel) (ifv2T (val_var rfl) (p := true) (q := false) (by decide +kernel) (by decide +kernel) rfl
      (at_tup 1 rfl hA rfl (q.1 _ rfl _ _ (.refl _) (fresh_int _ _ _)))))))
  | txt hA =>
    rw [ev] at q
    exact setS (at_tup 0 rfl hA rfl (ifvF (val_var rfl) (by decide +kernel) (ifv2F (val_var rfl) (by decide +kernel) (by decide +kernel) (ifv2T (val_var rfl) (p := false) (q := true) (by decide +kernel) (by decide +kernel) rfl
      (at_tup 1 rfl hA rfl (q.1 _ rfl _ _ (.refl _) (fresh_str _ _ _)))))))
  | @name A y hA =>
    rw [ev] at q
    rw [Ex.ok] at ok
    obtain ⟨kvs, h1, h2, h3⟩ := I.env
    rcases look_rep y h2 h3 with ⟨v, d, g1, g2, r, m⟩ | ⟨g1, g2⟩
    · rw [g2] at q
      have bd := I.ok.bd d m
      exact setS (at_tup 0 rfl hA rfl (ifvF (val_var rfl) (by decide +kernel) (ifv2F (val_var rfl) (by decide +kernel) (by decide +kernel) (ifv2F (val_var rfl) (by decide +kernel) (by decide +kernel) (ifvT (val_var rfl) (by decide +kernel)
        ⟨_, rfl, at_tup 1 rfl hA rfl ⟨a, v, rfl, .inl ⟨kvs, .inr y, h1, rfl, g1.symm⟩, v, d, rfl, r, bd.wd, bd.dep, fun v' H' s f => q.1 d rfl v' H' s f⟩⟩)))))
    · obtain ⟨d, hd⟩ := look_some I.ok.len ok
      rw [hd] at g2
      cases g2
  | @bin A s v u x y hA r1 r2 =>
    exact setS (at_tup 0 rfl hA rfl (ifvF (val_var rfl) (by decide +kernel) (ifv2F (val_var rfl) (by decide +kernel) (by decide +kernel) (ifv2F (val_var rfl) (by decide +kernel) (by decide +kernel) (ifvF (val_var rfl) (by decide +kernel) (ifvT (val_var rfl) (by decide +kernel)
      ⟨_, rfl, _, rfl, _, rfl, _, a, o, _, ks, ds, rfl, R0, trivial, ok, lv, I, q⟩))))))
  | choice hA r1 r2 r3 =>
    exact setS (at_tup 0 rfl hA rfl (ifvF (val_var rfl) (by decide +kernel) (ifv2F (val_var rfl) (by decide +kernel) (by decide +kernel) (ifv2F (val_var rfl) (by decide +kernel) (by decide +kernel) (ifvF (val_var rfl) (by decide +kernel) (ifvF (val_var rfl) (by decide +kernel) (ifvT (val_var rfl) (by decide +kernel)
      ⟨_, rfl, _, rfl, _, rfl, _, a, o, _, ks, ds, rfl, R0, trivial, ok, lv, I, q⟩)))))))
  | gather hA r1 r2 =>
    exact setS (at_tup 0 rfl hA rfl (ifvF (val_var rfl) (by decide +kernel) (ifv2F (val_var rfl) (by decide +kernel) (by decide +kernel) (ifv2F (val_var rfl) (by decide +kernel) (by decide +kernel) (ifvF (val_var rfl) (by decide +kernel) (ifvF (val_var rfl) (by decide +kernel) (ifvF (val_var rfl) (by decide +kernel) (ifvT (val_var rfl) (by decide +kernel)
      ⟨_, rfl, _, rfl, _, rfl, _, a, o, _, ks, ds, rfl, R0, trivial, ok, lv, I, q⟩))))))))
  | gatherIf hA r1 r2 r3 =>
    exact setS (at_tup 0 rfl hA rfl (ifvF (val_var rfl) (by decide +kernel) (ifv2F (val_var rfl) (by decide +kernel) (by decide +kernel) (ifv2F (val_var rfl) (by decide +kernel) (by decide +kernel) (ifvF (val_var rfl) (by decide +kernel) (ifvF (val_var rfl) (by decide +kernel) (ifvF (val_var rfl) (by decide +kernel) (ifvT (val_var rfl) (by decide +kernel)
      ⟨_, rfl, _, rfl, _, rfl, _, a, o, _, ks, ds, rfl, R0, trivial, ok, lv, I, q⟩))))))))
  | @fn A l f us xs hA hl R =>
    rw [Ex.ok] at ok
    rw [Ex.lvl] at lv
    rw [ev] at q
    have ln := R.len.2
    have ar : f.ar ≤ 3 := by cases f <;> decide
    refine setS (at_tup 0 rfl hA rfl (ifvF (val_var rfl) (by decide +kernel) (ifv2F (val_var rfl) (by decide +kernel) (by decide +kernel) (ifv2F (val_var rfl) (by decide +kernel) (by decide +kernel) (ifvF (val_var rfl) (by decide +kernel) (ifvF (val_var rfl) (by decide +kernel) (ifvF (val_var rfl) (by decide +kernel) (ifvF (val_var rfl) (by decide +kernel) (ifvT (val_var rfl) (by decide +kernel) ?_)))))))))
    refine at_tup 1 rfl hA rfl (at_tup 2 rfl hA rfl ⟨_, rfl, _, rfl, l, us, a, o, xs, ks, ds, rfl, hl, R, ok.2, by omega, by have := ok.1; omega, I.less (Nat.le_succ n), fun rs hrs p H' s fr => ?_, fun m hm => q.2 m (by rw [hm]; rfl)⟩)
    rw [hrs, onOks_v] at q
    obtain ⟨g1, g2⟩ := evs_bd I.ob xs ok.2 I.ok hrs
    obtain ⟨ws, hw, fs⟩ := fr.inLst
    exact ⟨f, H, p, ws, rs, rfl, hw, fs, WDL_bd g1, by rw [g2]; exact ok.1, s, q.later s⟩
  | lst hA h2 r =>
    refine setS (at_tup 0 rfl hA rfl (ifvF (val_var rfl) (by decide +kernel) (ifv2F (val_var rfl) (by decide +kernel) (by decide +kernel) (ifv2F (val_var rfl) (by decide +kernel) (by decide +kernel) (ifvF (val_var rfl) (by decide +kernel) (ifvF (val_var rfl) (by decide +kernel) (ifvF (val_var rfl) (by decide +kernel) (ifvF (val_var rfl) (by decide +kernel) (ifvF (val_var rfl) (by decide +kernel) (if_tstN (tin3 "list" "record" "act" (val_var rfl)) (fun _ H1 s1 => ?_) fun h => absurd h (by decide +kernel))))))))))) 
    exact ⟨_, rfl, _, rfl, _, rfl, _, a, o, _, ks, ds, rfl, R0.mono (rds_of s1), trivial, ok, lv, I.mono (rds_of s1), q.shift s1⟩
  | rcd hA h2 r =>
    refine setS (at_tup 0 rfl hA rfl (ifvF (val_var rfl) (by decide +kernel) (ifv2F (val_var rfl) (by decide +kernel) (by decide +kernel) (ifv2F (val_var rfl) (by decide +kernel) (by decide +kernel) (ifvF (val_var rfl) (by decide +kernel) (ifvF (val_var rfl) (by decide +kernel) (ifvF (val_var rfl) (by decide +kernel) (ifvF (val_var rfl) (by decide +kernel) (ifvF (val_var rfl) (by decide +kernel) (if_tstN (tin3 "list" "record" "act" (val_var rfl)) (fun _ H1 s1 => ?_) fun h => absurd h (by decide +kernel)))))))))))
    exact ⟨_, rfl, _, rfl, _, rfl, _, a, o, _, ks, ds, rfl, R0.mono (rds_of s1), trivial, ok, lv, I.mono (rds_of s1), q.shift s1⟩
  | act hA h2 r =>
    refine setS (at_tup 0 rfl hA rfl (ifvF (val_var rfl) (by decide +kernel) (ifv2F (val_var rfl) (by decide +kernel) (by decide +kernel) (ifv2F (val_var rfl) (by decide +kernel) (by decide +kernel) (ifvF (val_var rfl) (by decide +kernel) (ifvF (val_var rfl) (by decide +kernel) (ifvF (val_var rfl) (by decide +kernel) (ifvF (val_var rfl) (by decide +kernel) (ifvF (val_var rfl) (by decide +kernel) (if_tstN (tin3 "list" "record" "act" (val_var rfl)) (fun _ H1 s1 => ?_) fun h => absurd h (by decide +kernel)))))))))))
    exact ⟨_, rfl, _, rfl, _, rfl, _, a, o, _, ks, ds, rfl, R0.mono (rds_of s1), trivial, ok, lv, I.mono (rds_of s1), q.shift s1⟩
  | neg hA r =>
    refine setS (at_tup 0 rfl hA rfl (ifvF (val_var rfl) (by decide +kernel) (ifv2F (val_var rfl) (by decide +kernel) (by decide +kernel) (ifv2F (val_var rfl) (by decide +kernel) (by decide +kernel) (ifvF (val_var rfl) (by decide +kernel) (ifvF (val_var rfl) (by decide +kernel) (ifvF (val_var rfl) (by decide +kernel) (ifvF (val_var rfl) (by decide +kernel) (ifvF (val_var rfl) (by decide +kernel) (if_tstN (tin3 "list" "record" "act" (val_var rfl)) (fun h => absurd h (by decide +kernel)) fun _ H1 s1 => ?_))))))))))
    exact ⟨_, rfl, _, rfl, _, rfl, _, a, o, _, ks, ds, rfl, R0.mono (rds_of s1), trivial, ok, lv, I.mono (rds_of s1), q.shift s1⟩
  | not hA r =>
    refine setS (at_tup 0 rfl hA rfl (ifvF (val_var rfl) (by decide +kernel) (ifv2F (val_var rfl) (by decide +kernel) (by decide +kernel) (ifv2F (val_var rfl) (by decide +kernel) (by decide +kernel) (ifvF (val_var rfl) (by decide +kernel) (ifvF (val_var rfl) (by decide +kernel) (ifvF (val_var rfl) (by decide +kernel) (ifvF (val_var rfl) (by decide +kernel) (ifvF (val_var rfl) (by decide +kernel) (if_tstN (tin3 "list" "record" "act" (val_var rfl)) (fun h => absurd h (by decide +kernel)) fun _ H1 s1 => ?_))))))))))
    exact ⟨_, rfl, _, rfl, _, rfl, _, a, o, _, ks, ds, rfl, R0.mono (rds_of s1), trivial, ok, lv, I.mono (rds_of s1), q.shift s1⟩
  | field hA r =>
    refine setS (at_tup 0 rfl hA rfl (ifvF (val_var rfl) (by decide +kernel) (ifv2F (val_var rfl) (by decide +kernel) (by decide +kernel) (ifv2F (val_var rfl) (by decide +kernel) (by decide +kernel) (ifvF (val_var rfl) (by decide +kernel) (ifvF (val_var rfl) (by decide +kernel) (ifvF (val_var rfl) (by decide +kernel) (ifvF (val_var rfl) (by decide +kernel) (ifvF (val_var rfl) (by decide +kernel) (if_tstN (tin3 "list" "record" "act" (val_var rfl)) (fun h => absurd h (by decide +kernel)) fun _ H1 s1 => ?_))))))))))
    exact ⟨_, rfl, _, rfl, _, rfl, _, a, o, _, ks, ds, rfl, R0.mono (rds_of s1), trivial, ok, lv, I.mono (rds_of s1), q.shift s1⟩
  | item hA r r2 =>
    refine setS (at_tup 0 rfl hA rfl (ifvF (val_var rfl) (by decide +kernel) (ifv2F (val_var rfl) (by decide +kernel) (by decide +kernel) (ifv2F (val_var rfl) (by decide +kernel) (by decide +kernel) (ifvF (val_var rfl) (by decide +kernel) (ifvF (val_var rfl) (by decide +kernel) (ifvF (val_var rfl) (by decide +kernel) (ifvF (val_var rfl) (by decide +kernel) (ifvF (val_var rfl) (by decide +kernel) (if_tstN (tin3 "list" "record" "act" (val_var rfl)) (fun h => absurd h (by decide +kernel)) fun _ H1 s1 => ?_))))))))))
    exact ⟨_, rfl, _, rfl, _, rfl, _, a, o, _, ks, ds, rfl, R0.mono (rds_of s1), trivial, ok, lv, I.mono (rds_of s1), q.shift s1⟩
end
end Vk
set_option maxHeartbeats 4000000
/-! the program: its defs stand, evaluate keeps its promise -/
namespace Vk
open PySem PySem.Spec PyProof.Rows L2
/-- the program's defs stand -/
structure PrDefs (K : PySem.W.Frag) (mg : Str → Option Value) : Prop where
  d_kind_of_value : DefA K mg "kind_of_value" s_kind_of_value
  d_parts_of : DefA K mg "parts_of" s_parts_of
  d_same : DefA K mg "same" s_same
  d_same_members : DefA K mg "same_members" s_same_members
  d_same_fields : DefA K mg "same_fields" s_same_fields
  d_depth : DefA K mg "depth" s_depth
  d_size : DefA K mg "size" s_size
  d_text_of : DefA K mg "text_of" s_text_of
  d_copied : DefA K mg "copied" s_copied
  d_bounded_number : DefA K mg "bounded_number" s_bounded_number
  d_bounded_text : DefA K mg "bounded_text" s_bounded_text
  d_bounded : DefA K mg "bounded" s_bounded
  d_need_boolean : DefA K mg "need_boolean" s_need_boolean
  d_need_number : DefA K mg "need_number" s_need_number
  d_need_list : DefA K mg "need_list" s_need_list
  d_need_record : DefA K mg "need_record" s_need_record
  d_field_of : DefA K mg "field_of" s_field_of
  d_has_place : DefA K mg "has_place" s_has_place
  d_at_place : DefA K mg "at_place" s_at_place
  d_length_of : DefA K mg "length_of" s_length_of
  d_text_from : DefA K mg "text_from" s_text_from
  d_get_from : DefA K mg "get_from" s_get_from
  d_keys_of : DefA K mg "keys_of" s_keys_of
  d_quotient : DefA K mg "quotient" s_quotient
  d_least_of : DefA K mg "least_of" s_least_of
  d_greatest_of : DefA K mg "greatest_of" s_greatest_of
  d_call_function : DefA K mg "call_function" s_call_function
  d_add : DefA K mg "add" s_add
  d_calculate : DefA K mg "calculate" s_calculate
  d_compare : DefA K mg "compare" s_compare
  d_operate : DefA K mg "operate" s_operate
  d_evaluate_all : DefA K mg "evaluate_all" s_evaluate_all
  d_evaluate_binary : DefA K mg "evaluate_binary" s_evaluate_binary
  d_evaluate_choice : DefA K mg "evaluate_choice" s_evaluate_choice
  d_evaluate_gathering : DefA K mg "evaluate_gathering" s_evaluate_gathering
  d_evaluate_made : DefA K mg "evaluate_made" s_evaluate_made
  d_evaluate_part : DefA K mg "evaluate_part" s_evaluate_part
  d_evaluate : DefA K mg "evaluate" s_evaluate
section
variable {w : World} {K : PySem.W.Frag} {mg : Str → Option Value} {base : Heap} {C Vw fI cc cda : Addr}
theorem prog_evaluate (D : PrDefs K mg) (z : Nm mg) (y : Cst mg) (T : FltTxt K mg C Vw fI cc cda) (FT : FnTab K w mg) : ∀ n : Nat, Cal PP w K mg base (CX PP w) (50 + 4 * n) "evaluate" ["expression", "environment", "owner"] (spEv C n) := by
  have kd := cal_kind_of_value (w := w) (base := base) D.d_kind_of_value z
  have pa := cal_parts_of (w := w) (base := base) D.d_parts_of z kd
  have dp := cal_depth_n (w := w) (base := base) D.d_depth z kd pa 22
  have sz := cal_size_n (w := w) (base := base) D.d_size z kd pa 22
  have sm := cal_same_n (w := w) (base := base) D.d_same D.d_same_members D.d_same_fields z kd 20
  have cp := cal_copied_n (w := w) (base := base) D.d_copied z kd 20
  have tx := cal_text_of (w := w) (base := base) D.d_text_of z kd
  have bn := cal_bounded_number (w := w) (base := base) D.d_bounded_number z T y
  have bt := cal_bounded_text (w := w) (base := base) D.d_bounded_text z T y
  have bd := cal_bounded (w := w) (base := base) D.d_bounded z T y kd dp sz
  have nb := cal_need_boolean (w := w) (base := base) D.d_need_boolean z T kd
  have nn := cal_need_number (w := w) (base := base) D.d_need_number z T kd
  have nl := cal_need_list (w := w) (base := base) D.d_need_list z T kd
  have nr := cal_need_record (w := w) (base := base) D.d_need_record z T kd
  have fo := cal_field_of (w := w) (base := base) D.d_field_of z T kd
  have hp := cal_has_place (w := w) (base := base) D.d_has_place z T kd
  have ap := cal_at_place (w := w) (base := base) D.d_at_place z T hp
  have c1 := cal_length_of (w := w) (base := base) D.d_length_of z T kd
  have c2 := cal_text_from (w := w) (base := base) D.d_text_from z T tx
  have c3 := cal_get_from (w := w) (base := base) D.d_get_from z T hp
  have c4 := cal_keys_of (w := w) (base := base) D.d_keys_of z T nr bd
  have c5 := cal_least_of (w := w) (base := base) D.d_least_of z T nn
  have c6 := cal_greatest_of (w := w) (base := base) D.d_greatest_of z T nn
  have cf := cal_call_function (w := w) (base := base) D.d_call_function FT (c1.mono (by decide)) (c2.mono (by decide)) (c3.mono (by decide)) c4 (c5.mono (by decide)) (c6.mono (by decide))
  have qu := cal_quotient (w := w) (base := base) D.d_quotient z T
  have ad := cal_add (w := w) (base := base) D.d_add z T kd tx bn bt bd
  have ca := cal_calculate (w := w) (base := base) D.d_calculate z T nn bn qu
  have cm := cal_compare (w := w) (base := base) D.d_compare z T kd
  have op := cal_operate (w := w) (base := base) D.d_operate z ad ca cm sm
  intro n
  induction n with
  | zero => exact (Cal.never D.d_evaluate (fun f fd F => F.bindsN fun _ _ _ _ _ _ us hl => match us, hl with | [_, _, _], _ => rfl) fun vs H Q E ⟨v, a, o, x, ks, ds, _, _, _, _, h, _⟩ => by
      cases x <;> (rw [Ex.lvl] at h; omega)).mono (Nat.zero_le _)
  | succ n ih =>
    have al := cal_evaluate_all (w := w) (base := base) D.d_evaluate_all ih
    have e1 := cal_evaluate_binary (w := w) (base := base) D.d_evaluate_binary z (by omega) nb op ih
    have e2 := cal_evaluate_choice (w := w) (base := base) D.d_evaluate_choice z (by omega) nb ih
    have e3 := cal_evaluate_gathering (w := w) (base := base) D.d_evaluate_gathering z (by omega) nb nl bd ih
    have e4 := cal_evaluate_made (w := w) (base := base) D.d_evaluate_made z (by omega) bd ih al
    have e5 := cal_evaluate_part (w := w) (base := base) D.d_evaluate_part z (by omega) nb nn bn fo ap ih
    exact (cal_evaluate (w := w) (base := base) (k := 50 + 4 * n + 2) D.d_evaluate (by omega) cp cf (al.mono (by omega)) (e1.mono (by omega)) (e2.mono (by omega)) (e3.mono (by omega)) e4 (e5.mono (by omega))).mono (by omega)
end
end Vk
set_option maxHeartbeats 4000000
/-! the law's own: kinds, parts, same, depth, size, texts -/
namespace Vk
open PySem PySem.Spec PyProof.Rows L2
section
variable {w : World} {K : PySem.W.Frag} {mg : Str → Option Value} {base : Heap} {n k : Nat}
abbrev s_L_kind : Stmt := topS 73
theorem sc_L_kind : FnScope ["_law_value_here"] ["_law_value_here"] (defScope s_L_kind) := ⟨rfl, rfl, rfl, by decide +kernel, rfl, by decide +kernel, by decide +kernel⟩
theorem cal_L_kind (D : DefA K mg "_law_kind" s_L_kind) (z : Nm mg) : Cal PP w K mg base CX0 1 "_law_kind" ["_law_value_here"] spKind := by
  refine cal_mk D sc_L_kind (fun _ _ _ _ _ _ us hl => match us, hl with | [_], _ => rfl) (fun vs H Q E h => ?_) (fun f cdv A outer s H vs Q E hr h => ?_)
  · obtain ⟨v, d, rfl, _⟩ := h
    rfl
  obtain ⟨v, d, rfl, r, q⟩ := h
  refine ⟨_, (pss_cons (ps_if (pt_cmpR op_isN (pv 0) pe_non (nomark _)) (pss_one (ps_ret pe_str)) pss_nil)
    (pss_cons (ps_if (pt_val (pe_callB call_isi (by rfl) z.isinstance (by decide +kernel) (pa_cons (pv 0) (pa_cons (pe_ty rfl z.bool PyProof.Rows.Boot.«bool») pa_nil)))) (pss_one (ps_ret pe_str)) pss_nil)
    (pss_cons (ps_if (pt_val (pe_callB call_isi (by rfl) z.isinstance (by decide +kernel) (pa_cons (pv 0) (pa_cons (pe_ty rfl z.int PyProof.Rows.Boot.«int») pa_nil)))) (pss_one (ps_ret pe_str)) pss_nil)
    (pss_cons (ps_if (pt_val (pe_callB call_isi (by rfl) z.isinstance (by decide +kernel) (pa_cons (pv 0) (pa_cons (pe_ty rfl z.str PyProof.Rows.Boot.«str») pa_nil)))) (pss_one (ps_ret pe_str)) pss_nil)
    (pss_cons (ps_if (pt_val (pe_callB call_isi (by rfl) z.isinstance (by decide +kernel) (pa_cons (pv 0) (pa_cons (pe_ty rfl z.list PyProof.Rows.Boot.«list») pa_nil)))) (pss_one (ps_ret pe_str)) pss_nil)
    (pss_cons (ps_if (pt_val (pe_callB call_isi (by rfl) z.isinstance (by decide +kernel) (pa_cons (pv 0) (pa_cons (pe_ty rfl z.dict PyProof.Rows.Boot.«dict») pa_nil)))) (pss_one (ps_ret pe_str)) pss_nil)
    (pss_cons (ps_if (PW.pt (pw_and (pt_val (pe_callB call_isi (by rfl) z.isinstance (by decide +kernel) (pa_cons (pv 0) (pa_cons (pe_ty rfl z.tuple PyProof.Rows.Boot.«tuple») pa_nil)))) (pw_and (pt_cmpR op_eq (pe_callB (call_lenK (K := K) rfl) (by rfl) z.len (by decide +kernel) (pa_cons (pv 0) pa_nil)) pe_int (nomark _)) (pw_and1 (pt_cmpR op_eq (pe_ix ix_tup (pv 0) pe_int (fun _ _ => rfl)) pe_str (nomark _)))))) (pss_one (ps_ret pe_str)) pss_nil)
    (pss_one (ps_ret pe_str))))))))), ?_⟩
  have n := r.isN
  have ty := r.ty (K := K)
  refine ⟨_, rfl, rfl, _, congrArg V.bl n, ?_⟩
  cases r with
  | non => exact iteT q
  | bl b =>
    have ty : TyX K H _ (.type "bool") := ty
    exact iteF ⟨_, rfl, _, _, _, _, true, rfl, .ty _, ty, kit_ty (by decide +kernel), _, rfl, iteT q⟩
  | int i =>
    have ty : TyX K H _ (.type "int") := ty
    exact iteF ⟨_, rfl, _, _, _, _, false, rfl, .ty _, ty, kit_ty (by decide +kernel), _, rfl, iteF ⟨_, rfl, _, _, _, _, true, rfl, .ty _, ty, kit_ty (by decide +kernel), _, rfl, iteT q⟩⟩
  | str x =>
    have ty : TyX K H _ (.type "str") := ty
    exact iteF ⟨_, rfl, _, _, _, _, false, rfl, .ty _, ty, kit_ty (by decide +kernel), _, rfl, iteF ⟨_, rfl, _, _, _, _, false, rfl, .ty _, ty, kit_ty (by decide +kernel), _, rfl, iteF ⟨_, rfl, _, _, _, _, true, rfl, .ty _, ty, kit_ty (by decide +kernel), _, rfl, iteT q⟩⟩⟩
  | lst h r0 =>
    have ty : TyX K H _ (.type "list") := ty
    exact iteF ⟨_, rfl, _, _, _, _, false, rfl, .ty _, ty, kit_ty (by decide +kernel), _, rfl, iteF ⟨_, rfl, _, _, _, _, false, rfl, .ty _, ty, kit_ty (by decide +kernel), _, rfl, iteF ⟨_, rfl, _, _, _, _, false, rfl, .ty _, ty, kit_ty (by decide +kernel), _, rfl, iteF ⟨_, rfl, _, _, _, _, true, rfl, .ty _, ty, kit_ty (by decide +kernel), _, rfl, iteT q⟩⟩⟩⟩
  | rcd h hk r0 =>
    have ty : TyX K H _ (.type "dict") := ty
    exact iteF ⟨_, rfl, _, _, _, _, false, rfl, .ty _, ty, kit_ty (by decide +kernel), _, rfl, iteF ⟨_, rfl, _, _, _, _, false, rfl, .ty _, ty, kit_ty (by decide +kernel), _, rfl, iteF ⟨_, rfl, _, _, _, _, false, rfl, .ty _, ty, kit_ty (by decide +kernel), _, rfl, iteF ⟨_, rfl, _, _, _, _, false, rfl, .ty _, ty, kit_ty (by decide +kernel), _, rfl, iteF ⟨_, rfl, _, _, _, _, true, rfl, .ty _, ty, kit_ty (by decide +kernel), _, rfl, iteT q⟩⟩⟩⟩⟩
  | act h h2 r0 =>
    have ty : TyX K H _ (.type "tuple") := ty
    exact iteF ⟨_, rfl, _, _, _, _, false, rfl, .ty _, ty, kit_ty (by decide +kernel), _, rfl, iteF ⟨_, rfl, _, _, _, _, false, rfl, .ty _, ty, kit_ty (by decide +kernel), _, rfl, iteF ⟨_, rfl, _, _, _, _, false, rfl, .ty _, ty, kit_ty (by decide +kernel), _, rfl, iteF ⟨_, rfl, _, _, _, _, false, rfl, .ty _, ty, kit_ty (by decide +kernel), _, rfl, iteF ⟨_, rfl, _, _, _, _, false, rfl, .ty _, ty, kit_ty (by decide +kernel), _, rfl, iteF ⟨_, rfl, _, _, _, _, true, rfl, .ty _, ty, kit_ty (by decide +kernel), _, rfl, iteT ⟨_, rfl, .inl ⟨_, 4, rfl, .inr ⟨_, .inl (.inl h), rfl⟩, rfl, true, congrArg V.bl (decide_eq_true rfl), iteT ⟨_, rfl, _, _, 0, _, rfl, rfl, .inl (.inl h), rfl, rfl, true, congrArg V.bl (decide_eq_true rfl), iteT q⟩⟩⟩⟩⟩⟩⟩⟩⟩
abbrev s_L_parts : Stmt := topS 75
theorem sc_L_parts : FnScope ["_law_value_here", "_law_kind_here", "_law_name"] ["_law_value_here"] (defScope s_L_parts) := ⟨rfl, rfl, rfl, by decide +kernel, rfl, by decide +kernel, by decide +kernel⟩
theorem cal_L_parts (D : DefA K mg "_law_parts" s_L_parts) (z : Nm mg) (c__law_kind : Cal PP w K mg base CX0 1 "_law_kind" ["_law_value_here"] spKind) : Cal PP w K mg base CX0 2 "_law_parts" ["_law_value_here"] spParts := by
  refine cal_mk D sc_L_parts (fun _ _ _ _ _ _ us hl => match us, hl with | [_], _ => rfl) (fun vs H Q E h => ?_) (fun f cdv A outer s H vs Q E hr h => ?_)
  · obtain ⟨v, d, rfl, _⟩ := h
    rfl
  obtain ⟨v, d, rfl, R, wd, q⟩ := h
  have hu := hu_of hr
  refine ⟨_, (pss_cons (ps_set (i := 1) sc_L_parts.nd rfl (Or.inl rfl) (pe_cal c__law_kind hr (by rfl) (pa_cons (pv 0) pa_nil)))
    (pss_cons (ps_if (pt_cmpR op_eq (pv 1) pe_str (nomark _)) (pss_one (ps_ret (pv 0))) pss_nil)
    (pss_cons (ps_if (pt_cmpR op_eq (pv 1) pe_str (nomark _)) (pss_one (ps_ret (pe_lockR (pe_lc (own := [("_law_name", 2)]) (g := gName 2) (tt := tYes) rfl sc_L_parts.nd (pi_keys (pv 0)) (blkOk_by (N := ["_law_value_here", "_law_kind_here", "_law_name"]) (sc := defScope s_L_parts) (by decide +kernel)) (fun _ _ _ _ _ => pg_name (i := 2) sc_L_parts.nd rfl (Or.inl rfl)) (fun _ _ _ _ _ => pts_nil) (fun _ _ _ _ _ => (pe_dget hu (pv 0) (pv 2) (fun _ _ => rfl))))))) pss_nil)
    (pss_cons (ps_if (pt_cmpR op_eq (pv 1) pe_str (nomark _)) (pss_one (ps_ret (pe_ix ix_tup (pv 0) pe_int (fun _ _ => rfl)))) pss_nil)
    (pss_one (ps_ret (pe_lst pa_nil))))))), ?_⟩
  refine kset rfl R (ifkS .list rfl (fun e => ?_) fun n1 => ifkS .record rfl (fun e => ?_) fun n2 => ifkS .act rfl (fun e => ?_) fun n3 => ?_)
  · cases R with
    | lst h r => exact ⟨_, rfl, q _ _ _ (.refl H) h r⟩
    | _ => cases e
  · cases R with
    | @rcd a kvs ks ds h hk r =>
      refine lockER_on h fun o H1 un Q1 u hq => ⟨_, rfl, _, _, rfl, .inl ⟨kvs, u.at1, ?_⟩⟩
      have nd := keys_nodup hk wd.1
      have hlen := r.length
      have ln : (kvs.map (·.2)).length = kvs.length := List.length_map _
      refine lc_pure walk_keys (kvs.map (·.2)) ln ?_ (fun H2 s => s _ _ u.at1) (fun j x H2 H' y Qk hj s2 hy e => ⟨hy.1, fun qk => ?_⟩) fun D hD => ?_
      · have w3 := wd.2.2.1
        have w2 := wd.2.1
        rw [keys_len hk]
        exact small1000 (by omega)
      · obtain ⟨k, v, hv, rfl⟩ := hy.2
        rw [List.getElem?_map, hv] at e
        cases e
        exact ⟨_, rfl, _, rfl, _, v, rfl, .inl ⟨kvs, k, .inr ⟨o, s2 _ _ u.at1⟩, rfl, (valV_at nd hv).symm⟩, qk⟩
      · refine hq _ _ ?_ (q D (kvs.map (·.2)) _ (u.un (same_new hD _)) ?_ (r.mono (rds_of (u.un (same_new hD _)))))
        · rw [upd_ne (ne_of_none u.at1 hD)]
          exact u.at1
        · refine ((u.back (upd H1 D (.lst (kvs.map (·.2)))) ?_).2 D (fun e => (ne_of_none u.at1 hD) e.symm)).trans upd_same
          rw [upd_ne (ne_of_none u.at1 hD)]
          exact u.at1
    | _ => cases e
  · cases R with
    | act h h2 r => exact ⟨_, rfl, _, _, 3, _, rfl, rfl, .inl (.inl h), rfl, q _ _ _ (.refl H) h2 r⟩
    | _ => cases e
  · refine ⟨by decide, fun p hp => q p _ _ (same_new hp _) upd_same ?_⟩
    have e : d.parts = [] := by cases d <;> first | rfl | exact absurd rfl n1 | exact absurd rfl n2 | exact absurd rfl n3
    rw [e]
    exact .nil
end
end Vk
set_option maxHeartbeats 4000000
/-! the law's own: same -/
namespace Vk
open PySem PySem.Spec PyProof.Rows L2
def actB : Dat → Nat
  | .act _ _ _ => 1 | _ => 0
def msr (d : Dat) : Nat := 2 * d.dep + actB d
theorem msr_le (d : Dat) : msr d ≤ 2 * d.dep + 1 := by
  have h : actB d ≤ 1 := by cases d <;> first | exact Nat.le_refl 1 | exact Nat.zero_le 1
  unfold msr
  omega
theorem kd_none (k : Kd) : decide (V.str k.s = V.str "none") = false := by cases k <;> decide +kernel
def spLSame (n : Nat) : Sp := fun vs H Q _ => ∃ v w d e, vs = [v, w] ∧ Rep H v d ∧ Rep H w e ∧ d.WD ∧ e.WD ∧ msr d ≤ n ∧ ∀ H', Same H H' → Q (.bl (sameD d e)) H'
/-! ### sorted keys -/
theorem perm_of_sub : ∀ {ks ls : List Str}, ks.Nodup → ks.length = ls.length → (∀ k ∈ ks, k ∈ ls) → ks.Perm ls
  | [], ls, _, h, _ => by
    cases ls with
    | nil => exact List.Perm.refl _
    | cons l ls => cases h
  | k :: ks, ls, nd, h, sub => by
    rw [List.nodup_cons] at nd
    have hk := sub k List.mem_cons_self
    have p := List.perm_cons_erase hk
    have ih := perm_of_sub (ks := ks) (ls := ls.erase k) nd.2 (by rw [List.length_erase_of_mem hk, ← h]; rfl) fun x hx =>
      (List.mem_erase_of_ne (fun e => nd.1 (by rw [← e]; exact hx))).mpr (sub x (List.mem_cons_of_mem _ hx))
    exact (ih.cons k).trans p.symm
theorem dp_strs {K : PySem.W.Frag} {H : Hp} : ∀ ys : List Str, DpAll K H (ys.map V.str) (ys.map PyData.str)
  | [] => .nil
  | y :: ys => .cons (.str y) (dp_strs ys)
theorem eqv_strs : ∀ xs ys : List Str, PyData.eqv (.list (xs.map PyData.str)) (.list (ys.map PyData.str)) = decide (xs = ys)
  | [], [] => rfl
  | [], _ :: _ => rfl
  | _ :: _, [] => rfl
  | x :: xs, y :: ys => by
    have ih := eqv_strs xs ys
    show ((x == y) && PyData.eqvAll (xs.map PyData.str) (ys.map PyData.str)) = _
    have ih : PyData.eqvAll (xs.map PyData.str) (ys.map PyData.str) = decide (xs = ys) := ih
    rw [ih]
    by_cases h : x = y
    · subst h
      rw [beq_self_eq_true, Bool.true_and]
      exact decide_eq_decide.mpr ⟨fun e => by rw [e], fun e => (List.cons.inj e).2⟩
    · rw [beq_false_of_ne h, Bool.false_and]
      exact (decide_eq_false fun e => h (List.cons.inj e).1).symm
theorem canL : ∀ {ys : List Str}, (∀ y ∈ ys, KeyOk y) → PyData.canLayAll0 (ys.map PyData.str) = true
  | [], _ => rfl
  | y :: ys, h => by
    show (PyData.strOk y && _) = true
    rw [canL fun z hz => h z (List.mem_cons_of_mem _ hz), Bool.and_true]
    exact (h y List.mem_cons_self).2
theorem depS : ∀ ys : List Str, (PyData.list (ys.map PyData.str)).depth ≤ 64 := by
  intro ys
  have e : ∀ l : List Str, PyData.depthAll (l.map PyData.str) ≤ 1 := by
    intro l
    induction l with
    | nil => decide
    | cons a l ih =>
      show max (PyData.str a).depth (PyData.depthAll (l.map PyData.str)) ≤ 1
      exact Nat.max_le.mpr ⟨Nat.zero_le 1, ih⟩
  show PyData.depthAll (ys.map PyData.str) + 1 ≤ 64
  have := e ys
  omega
theorem shS {ys : List Str} (h : ∀ y ∈ ys, KeyOk y) : SeqAt.shaped (.list (ys.map PyData.str)) = true := by
  show (PyData.canLayAll0 (ys.map PyData.str) && decide _) = true
  rw [canL h, Bool.true_and]
  exact decide_eq_true (depS ys)
section
variable {w : World} {K : PySem.W.Frag} {mg : Str → Option Value} {base : Heap} {n k : Nat}
abbrev s_L_same : Stmt := topS 74
theorem sc_L_same : FnScope ["_law_first", "_law_second", "_law_kind_here", "_law_k", "_law_name"] ["_law_first", "_law_second"] (defScope s_L_same) := ⟨rfl, rfl, rfl, by decide +kernel, rfl, by decide +kernel, by decide +kernel⟩
theorem cal_L_same (D : DefA K mg "_law_same" s_L_same) (z : Nm mg) (hk : 1 ≤ k) (c__law_kind : Cal PP w K mg base CX0 1 "_law_kind" ["_law_value_here"] spKind) (c__law_same : Cal PP w K mg base CX0 k "_law_same" ["_law_first", "_law_second"] (spLSame n)) :
    Cal PP w K mg base CX0 (k + 1) "_law_same" ["_law_first", "_law_second"] (spLSame (n + 1)) := by
  have c__law_kind := c__law_kind.mono hk
  refine cal_mk D sc_L_same (fun _ _ _ _ _ _ us hl => match us, hl with | [_, _], _ => rfl) (fun vs H Q E h => ?_) (fun f cdv A outer s H vs Q E hr h => ?_)
  · obtain ⟨v, w, d, e, rfl, _⟩ := h
    rfl
  obtain ⟨v, w, d, e, rfl, R1, R2, wd, we, ms, q⟩ := h
  have hu := hu_of hr
  refine ⟨_, (pss_cons (ps_set (i := 2) sc_L_same.nd rfl (Or.inl rfl) (pe_cal c__law_kind hr (by rfl) (pa_cons (pv 0) pa_nil)))
    (pss_cons (ps_if (PW.pt (pw_or (pt_cmpR op_ne (pv 2) (pe_cal c__law_kind hr (by rfl) (pa_cons (pv 1) pa_nil)) (nomark _)) (pw_or1 (pt_cmpR op_eq (pv 2) pe_str (nomark _))))) (pss_one (ps_ret pe_bl)) pss_nil)
    (pss_cons (ps_if (pt_cmpR op_eq (pv 2) pe_str (nomark _)) (pss_cons (ps_if (pt_cmpR op_ne (pe_callB (call_lenK (K := K) rfl) (by rfl) z.len (by decide +kernel) (pa_cons (pv 0) pa_nil)) (pe_callB (call_lenK (K := K) rfl) (by rfl) z.len (by decide +kernel) (pa_cons (pv 1) pa_nil)) (nomark _)) (pss_one (ps_ret pe_bl)) pss_nil)
    (pss_cons (ps_for (passes_of rfl) rfl (pi_range1 (by rfl) z.range (pa_cons (pe_callB (call_lenK (K := K) rfl) (by rfl) z.len (by decide +kernel) (pa_cons (pv 0) pa_nil)) pa_nil)) (pg_name (i := 3) sc_L_same.nd rfl (Or.inl rfl)) (pss_one (ps_if (pt_not (pt_val (pe_cal c__law_same hr (by rfl) (pa_cons (pe_ix ix_list (pv 0) (pv 3) (fun _ _ => rfl)) (pa_cons (pe_ix ix_list (pv 1) (pv 3) (fun _ _ => rfl)) pa_nil))))) (pss_one (ps_ret pe_bl)) pss_nil)))
    (pss_one (ps_ret pe_bl)))) pss_nil)
    (pss_cons (ps_if (pt_cmpR op_eq (pv 2) pe_str (nomark _)) (pss_cons (ps_if (pt_cmpR (op_neD hr.units) (pe_callB (call_sortedD rfl) (by rfl) z.sorted (by decide +kernel) (pa_cons (pv 0) pa_nil)) (pe_callB (call_sortedD rfl) (by rfl) z.sorted (by decide +kernel) (pa_cons (pv 1) pa_nil)) (nomark _)) (pss_one (ps_ret pe_bl)) pss_nil)
    (pss_cons (ps_lockR (ps_for (passes_of rfl) rfl (pi_keys (pv 0)) (pg_name (i := 4) sc_L_same.nd rfl (Or.inl rfl)) (pss_one (ps_if (pt_not (pt_val (pe_cal c__law_same hr (by rfl) (pa_cons (pe_dget hu (pv 0) (pv 4) (fun _ _ => rfl)) (pa_cons (pe_dget hu (pv 1) (pv 4) (fun _ _ => rfl)) pa_nil))))) (pss_one (ps_ret pe_bl)) pss_nil))))
    (pss_one (ps_ret pe_bl)))) pss_nil)
    (pss_cons (ps_if (pt_cmpR op_eq (pv 2) pe_str (nomark _)) (pss_cons (ps_if (PW.pt (pw_or (pt_cmpR op_ne (pe_cal c__law_kind hr (by rfl) (pa_cons (pe_ix ix_tup (pv 0) pe_int (fun _ _ => rfl)) pa_nil)) pe_str (nomark _)) (pw_or (pt_cmpR op_ne (pe_ix ix_tup (pv 0) pe_int (fun _ _ => rfl)) (pe_ix ix_tup (pv 1) pe_int (fun _ _ => rfl)) (nomark _)) (pw_or1 (pt_cmpR op_ne (pe_ix ix_tup (pv 0) pe_int (fun _ _ => rfl)) (pe_ix ix_tup (pv 1) pe_int (fun _ _ => rfl)) (nomark _)))))) (pss_one (ps_ret pe_bl)) pss_nil)
    (pss_one (ps_ret (pe_cal c__law_same hr (by rfl) (pa_cons (pe_ix ix_tup (pv 0) pe_int (fun _ _ => rfl)) (pa_cons (pe_ix ix_tup (pv 1) pe_int (fun _ _ => rfl)) pa_nil)))))) pss_nil)
    (pss_one (ps_ret (pe_cmpR op_eq (pv 0) (pv 1) (nomark _))))))))), ?_⟩
  refine kset rfl R1 ?_
  refine if_pureN (p := !decide (d.kd = e.kd) || false) (PureT.or (fun Q q => ⟨_, rfl, _, rfl, w, e, rfl, R2, rfl, _, congrArg (fun b => V.bl (!b)) (kd_dec d.kd e.kd), q⟩) fun _ Q q => ⟨_, rfl, rfl, false, congrArg V.bl (kd_none d.kd), q⟩) (fun h => ?_) fun h => ?_
  · have he : d.kd ≠ e.kd := fun z => by
      rw [decide_eq_true z] at h
      cases h
    show Q (.bl false) H
    rw [← sameD_kd he]
    exact q H (.refl H)
  · have he : d.kd = e.kd := by
      cases hq : decide (d.kd = e.kd) with
      | true => exact of_decide_eq_true hq
      | false => rw [hq] at h; cases h
    refine ifkN .list rfl (fun h => ?_) fun n1 => ifkN .record rfl (fun h => ?_) fun n2 => ifkN .act rfl (fun h => ?_) fun n3 => ?_
    · cases R1 with
      | @lst a us ds h1 r1 =>
        cases R2 with
        | @lst b ws es h2 r2 =>
          have ms : 2 * (Dat.lst ds).dep + 0 ≤ n + 1 := ms
          rw [Dat.dep] at ms
          have l1 := r1.length
          have l2 := r2.length
          have lw := wd.1
          refine if_pureN (p := !decide (us.length = ws.length)) (fun Q q => ⟨_, rfl, .inl ⟨_, us.length, rfl, .inl ⟨us, .inl (.inl h1), rfl⟩, _, rfl, .inl ⟨_, ws.length, rfl, .inl ⟨ws, .inl (.inl h2), rfl⟩, rfl, _, congrArg (fun b => V.bl (!b)) (decide_eq_decide.mpr ⟨fun z => by injection z with z; omega, fun z => by rw [z]⟩), q⟩⟩⟩) (fun hl => ?_) fun hl => ?_
          · have hl : us.length ≠ ws.length := by simpa using hl
            show Q (.bl false) H
            have e0 : sameD (.lst ds) (.lst es) = false := by
              rw [sameD]
              exact sameL_ne (by omega)
            rw [← e0]
            exact q H (.refl H)
          · have hl : us.length = ws.length := by simpa using hl
            refine ⟨_, rfl, .inl ⟨_, us.length, rfl, .inl ⟨us, .inl (.inl h1), rfl⟩, (us.length : Int), rfl, by omega, by omega, ?_⟩⟩
            rw [Int.toNat_natCast]
            refine for_it walk_range (Pv := fun j σ H' => Same H H' ∧ (∃ x3, σ = [some (.ref a), some (.ref b), some (.str "list"), x3, none]) ∧ ∀ i < j, ∀ d e, ds[i]? = some d → es[i]? = some e → sameD d e = true)
              ⟨.refl H, ⟨_, rfl⟩, fun i hi => absurd hi (Nat.not_lt_zero i)⟩ (fun _ _ _ _ _ => trivial) (fun j x σ H1 H' hj p y => ?_) fun σ H' p => ?_
            · obtain ⟨s1, ⟨x3, rfl⟩, p4⟩ := p
              obtain ⟨rfl, rfl⟩ := y
              have g1 : us[j]? = some us[j] := List.getElem?_eq_getElem hj
              have g2 : ws[j]? = some (ws[j]'(by omega)) := List.getElem?_eq_getElem (by omega)
              obtain ⟨d, e1, r1⟩ := r1.get g1
              obtain ⟨e, e2, r2⟩ := r2.get g2
              have zi : (0 : Int) + (j : Nat) = (j : Nat) := Int.zero_add _
              have md := dep_mem (List.mem_of_getElem? e1)
              have mm := msr_le d
              refine ⟨_, rfl, _, rfl, a, us, _, _, rfl, rfl, .inl (.inl (s1 _ _ h1)), by rw [zi]; exact atI_nat g1, _, rfl, _, rfl, b, ws, _, _, rfl, rfl, .inl (.inl (s1 _ _ h2)), by rw [zi]; exact atI_nat g2, _, _, d, e, rfl, r1.mono (rds_of s1), r2.mono (rds_of s1), wd.2.mem (List.mem_of_getElem? e1), we.2.mem (List.mem_of_getElem? e2), by omega, fun H2 s2 => ⟨_, rfl, ?_⟩⟩
              cases hs : sameD d e with
              | false =>
                refine iteT (show Q (.bl false) H2 from ?_)
                have e0 : sameD (.lst ds) (.lst es) = false := by
                  rw [sameD]
                  exact sameL_one e1 e2 hs
                rw [← e0]
                exact q _ (s1.trans s2)
              | true =>
                refine iteF ⟨s1.trans s2, ⟨_, rfl⟩, fun i hi d' e' hd he => ?_⟩
                by_cases hij : i = j
                · subst hij
                  rw [e1] at hd
                  rw [e2] at he
                  cases hd
                  cases he
                  exact hs
                · exact p4 i (by omega) d' e' hd he
            · obtain ⟨s1, _, p4⟩ := p
              show Q (.bl true) H'
              have e0 : sameD (.lst ds) (.lst es) = true := by
                rw [sameD]
                exact sameL_all (by omega) fun i d e h1 h2 => p4 i (by rw [l1]; exact (List.getElem?_eq_some_iff.mp h1).1) d e h1 h2
              rw [← e0]
              exact q _ s1
        | _ => cases he
      | _ => cases h
    · cases R1 with
      | @rcd a kvs ks ds h1 k1 r1 =>
        cases R2 with
        | @rcd b lvs ls es h2 k2 r2 =>
          have ms : 2 * (Dat.rcd ks ds).dep + 0 ≤ n + 1 := ms
          rw [Dat.dep] at ms
          have l1 := keys_len k1
          have l2 := keys_len k2
          have l3 := r1.length
          have l4 := wd.2.2.1
          have l5 := we.2.2.1
          rw [List.length_map] at l3
          have nd := keys_nodup k1 wd.1
          have eq0 : sameD (.rcd ks ds) (.rcd ls es) = ((ks.length == ls.length) && sameF ks ds ls es) := by rw [sameD]
          rw [eq0] at q
          refine if_tstN (p := !decide (srt ks = srt ls)) (fun Q q => ⟨_, rfl, a, kvs, ks, rfl, h1, k1, by omega, fun ys p hp hs hpn => ⟨_, rfl, b, lvs, ls, rfl, ?_⟩⟩) (fun hl H1 s1 => ?_) fun hl H1 s1 => ?_
          · have s0 := same_new hpn (.lst (ys.map V.str))
            refine ⟨(rds_of s0).dic _ _ h2, k2, by omega, fun zs p2 hp2 hs2 hpn2 => ?_⟩
            have s2 := same_new hpn2 (.lst (zs.map V.str))
            refine ⟨.list (ys.map PyData.str), .list (zs.map PyData.str), .lst (.inl (.inl (s2 _ _ upd_same))) (dp_strs ys), .lst (.inl (.inl upd_same)) (dp_strs zs), shS fun y hy => wd.2.2.2.1 y (hp.mem_iff.mp hy), shS fun y hy => we.2.2.2.1 y (hp2.mem_iff.mp hy), _, congrArg (fun b => V.bl (!b)) (eqv_strs ys zs), ?_⟩
            rw [srt_eq hp hs, srt_eq hp2 hs2] at q
            exact q _ (s0.trans s2)
          · have hl : ¬ srt ks = srt ls := by simpa using hl
            show Q (.bl false) H1
            have e0 : ((ks.length == ls.length) && sameF ks ds ls es) = false := by
              cases hb : ((ks.length == ls.length) && sameF ks ds ls es) with
              | false => rfl
              | true =>
                rw [Bool.and_eq_true] at hb
                have hlen : ks.length = ls.length := by simpa using hb.1
                refine absurd ?_ hl
                have pm : ks.Perm ls := perm_of_sub wd.1 hlen fun k hk => by
                  obtain ⟨i, hi, e⟩ := List.mem_iff_getElem.mp hk
                  have gk : ks[i]? = some k := by rw [List.getElem?_eq_getElem hi, e]
                  have hd : i < ds.length := by omega
                  cases g : lookK ls es k with
                  | none =>
                    have := sameF_one (ls := ls) (es := es) gk (List.getElem?_eq_getElem hd) fun e h => by rw [g] at h; cases h
                    rw [this] at hb
                    cases hb.2
                  | some v =>
                    clear hb
                    have lk : ∀ {ls : List Str} {es : List Dat} {k : Str} {v : Dat}, lookK ls es k = some v → k ∈ ls := by
                      intro ls
                      induction ls with
                      | nil => intro es k v h; unfold lookK at h; cases h
                      | cons l ls ih =>
                        intro es k v h
                        cases es with
                        | nil => unfold lookK at h; cases h
                        | cons e es =>
                          unfold lookK at h
                          split at h
                          · rename_i q; rw [q]; exact List.mem_cons_self
                          · exact List.mem_cons_of_mem _ (ih h)
                    exact lk g
                obtain ⟨y1, p1, s1⟩ := srt_is ks
                obtain ⟨y2, p2, s2⟩ := srt_is ls
                rw [srt_eq p1 s1, srt_eq p2 s2]
                exact sorted_one ((p1.trans pm).trans p2.symm) s1 s2
            rw [← e0]
            exact q _ s1
          · have hl : srt ks = srt ls := by
              cases hq : decide (srt ks = srt ls) with
              | true => exact of_decide_eq_true hq
              | false => rw [hq] at hl; cases hl
            have pm : ks.Perm ls := by
              obtain ⟨y1, p1, s1⟩ := srt_is ks
              obtain ⟨y2, p2, s2⟩ := srt_is ls
              rw [srt_eq p1 s1, srt_eq p2 s2] at hl
              rw [hl] at p1
              exact p1.symm.trans p2
            have lb : (ks.length == ls.length) = true := by rw [pm.length_eq]; exact BEq.rfl
            rw [lb, Bool.true_and] at q
            have g1 := (rds_of s1).dic _ _ h1
            have g2 := (rds_of s1).dic _ _ h2
            refine lockR_on g1 fun o H2 un D1 u hnx hrt => ⟨_, rfl, a, o, rfl, .inl ⟨kvs, u.at1, ?_⟩⟩
            have r1' := (r1.mono (rds_of s1)).mono u.rd
            have r2' := (r2.mono (rds_of s1)).mono u.rd
            have g2' := u.rd.dic _ _ g2
            refine for_it walk_keys (Pv := fun j σ H' => Same H2 H' ∧ (∃ x4, σ = [some (.ref a), some (.ref b), some (.str "record"), none, x4]) ∧ ∀ i < j, ∀ k d, ks[i]? = some k → ds[i]? = some d → ∃ e, lookK ls es k = some e ∧ sameD d e = true)
              ⟨.refl _, ⟨_, rfl⟩, fun i hi => absurd hi (Nat.not_lt_zero i)⟩ (fun _ _ _ _ p => p.1 _ _ u.at1) (fun j x σ H3 H' hj p y => ?_) fun σ H' p => ?_
            · obtain ⟨s3, ⟨x4, rfl⟩, p4⟩ := p
              obtain ⟨rfl, kk, v, hv, rfl⟩ := y
              obtain ⟨kx, rfl, hk⟩ := key_at k1 hv
              have hv2 : (kvs.map (·.2))[j]? = some v := by rw [List.getElem?_map, hv]; rfl
              obtain ⟨d, e1, q1⟩ := r1'.get hv2
              have mk : kx ∈ ls := pm.mem_iff.mp (List.mem_of_getElem? hk)
              have le : ls.length = es.length := we.2.1
              rcases look_rep kx k2 r2' with ⟨v2, e, c1, c2, q2, m⟩ | ⟨c1, c2⟩
              · have md := dep_mem (List.mem_of_getElem? e1)
                have mm := msr_le d
                refine ⟨_, rfl, _, rfl, a, v, rfl, .inl ⟨kvs, .inr kx, .inr ⟨o, s3 _ _ u.at1⟩, rfl, (valV_at nd hv).symm⟩, _, rfl, _, rfl, b, v2, rfl, .inl ⟨lvs, .inr kx, (rds_of s3).dic _ _ g2', rfl, c1.symm⟩, v, v2, d, e, rfl, q1.mono (rds_of s3), q2.mono (rds_of s3), wd.2.2.2.2.mem (List.mem_of_getElem? e1), we.2.2.2.2.mem m, by omega, fun H4 s4 => ⟨_, rfl, ?_⟩⟩
                cases hs : sameD d e with
                | false =>
                  refine iteT (hrt _ _ ((s3.trans s4) _ _ u.at1) ?_)
                  have e0 : sameF ks ds ls es = false := sameF_one hk e1 fun e' h' => by rw [c2] at h'; cases h'; exact hs
                  have := q _ (s1.trans (u.un (s3.trans s4)))
                  rw [e0] at this
                  exact this
                | true =>
                  refine iteF ⟨s3.trans s4, ⟨_, rfl⟩, fun i hi k' d' hk' hd => ?_⟩
                  by_cases hij : i = j
                  · subst hij
                    rw [e1] at hd
                    rw [hk] at hk'
                    cases hd
                    cases hk'
                    exact ⟨e, c2, hs⟩
                  · exact p4 i (by omega) k' d' hk' hd
              · obtain ⟨d', hd'⟩ := look_some le mk
                rw [hd'] at c2
                cases c2
            · obtain ⟨s3, _, p4⟩ := p
              refine hnx _ _ (s3 _ _ u.at1) ?_
              show Q (.bl true) (un H')
              have e0 : sameF ks ds ls es = true := sameF_all (by omega) fun i k' d h1 h2 => p4 i (by rw [l1]; exact (List.getElem?_eq_some_iff.mp h1).1) k' d h1 h2
              have := q _ (s1.trans (u.un s3))
              rw [e0] at this
              exact this
        | _ => cases he
      | _ => cases h
    · cases R1 with
      | @act a a2 o nm us ds h1 h2 r1 =>
        cases R2 with
        | @act b b2 p mm ws es g1 g2 r2 =>
          have ms : 2 * (Dat.act o nm ds).dep + 1 ≤ n + 1 := ms
          rw [Dat.dep] at ms
          have eq0 : sameD (.act o nm ds) (.act p mm es) = ((o == p) && (decide (nm = mm) && sameL ds es)) := by rw [sameD]
          rw [eq0] at q
          refine if_pureN (p := false || (!(o == p) || !decide (nm = mm))) (PureT.or (fun Q q => at_tup 1 rfl h1 rfl ⟨.int o, .int o, rfl, .int o, rfl, false, congrArg (fun b => V.bl (!b)) (kd_dec .number .number), q⟩) fun _ => PureT.or (fun Q q => at_tup 1 rfl h1 rfl (at_tup 1 rfl g1 rfl ⟨rfl, _, congrArg (fun b => V.bl (!b)) dec_int, q⟩)) fun _ Q q => at_tup 2 rfl h1 rfl (at_tup 2 rfl g1 rfl ⟨rfl, _, congrArg (fun b => V.bl (!b)) (decide_eq_decide.mpr ⟨fun z => by cases z; rfl, fun z => by rw [z]⟩), q⟩)) (fun h => ?_) fun h => ?_
          · show Q (.bl false) H
            have e0 : ((o == p) && (decide (nm = mm) && sameL ds es)) = false := by
              cases hq : o == p with
              | false => rfl
              | true =>
                rw [hq] at h
                cases hm : decide (nm = mm) with
                | false => rfl
                | true => rw [hm] at h; cases h
            rw [← e0]
            exact q H (.refl H)
          · have e1 : (o == p) = true := by
              cases hq : o == p with
              | true => rfl
              | false => rw [hq] at h; cases h
            have e2 : decide (nm = mm) = true := by
              cases hm : decide (nm = mm) with
              | true => rfl
              | false => rw [hm, e1] at h; cases h
            rw [e1, e2, Bool.true_and, Bool.true_and] at q
            have e3 : sameL ds es = sameD (.lst ds) (.lst es) := by rw [sameD]
            rw [e3] at q
            refine at_tup 3 rfl h1 rfl (at_tup 3 rfl g1 rfl ⟨.ref a2, .ref b2, .lst ds, .lst es, rfl, .lst h2 r1, .lst g2 r2, wd.2.2, we.2.2, ?_, q⟩)
            show 2 * (Dat.lst ds).dep + 0 ≤ n
            rw [Dat.dep]
            omega
        | _ => cases he
      | _ => cases h
    · have q := q H (.refl H)
      cases R1 with
      | non =>
        cases R2 with
        | non => exact ⟨_, rfl, _, rfl, rfl, q⟩
        | _ => cases he
      | bl i =>
        cases R2 with
        | bl j =>
          refine ⟨_, rfl, _, rfl, rfl, ?_⟩
          rw [dec_bl]
          exact q
        | _ => cases he
      | int i =>
        cases R2 with
        | int j =>
          refine ⟨_, rfl, _, rfl, rfl, ?_⟩
          rw [dec_int]
          exact q
        | _ => cases he
      | str i =>
        cases R2 with
        | str j =>
          refine ⟨_, rfl, _, rfl, rfl, ?_⟩
          have e2 : decide (V.str i = V.str j) = decide (i = j) := decide_eq_decide.mpr ⟨fun z => by cases z; rfl, fun z => by rw [z]⟩
          rw [e2]
          exact q
        | _ => cases he
      | lst => exact absurd rfl n1
      | rcd => exact absurd rfl n2
      | act => exact absurd rfl n3
theorem cal_L_same_n (D : DefA K mg "_law_same" s_L_same) (z : Nm mg) (c : Cal PP w K mg base CX0 1 "_law_kind" ["_law_value_here"] spKind) : ∀ n : Nat, Cal PP w K mg base CX0 (n + 1) "_law_same" ["_law_first", "_law_second"] (spLSame n)
  | 0 => (Cal.never D (fun f fd F => F.bindsN fun _ _ _ _ _ _ us hl => match us, hl with | [_, _], _ => rfl) fun vs H Q E ⟨v, w, d, e, _, _, _, _, _, h, _⟩ => absurd (dep_pos d) (by unfold msr at h; omega)).mono (Nat.zero_le _)
  | n + 1 => cal_L_same D z (by omega) c (cal_L_same_n D z c n)
end
end Vk
set_option maxHeartbeats 4000000
/-! the law's own: depth, size, texts, what is made -/
namespace Vk
open PySem PySem.Spec PyProof.Rows L2
/-- elements that are plain values; the heap grows -/
theorem lc_vals {J : It} {n i : Nat} {G : Hp → Prop} {Y : Nat → Hp → V → Hp → Prop} {te : TE} {σ : L2.St} {H1 : Hp} {Q : VK} (w : Walk J n G Y) (ys : List V) (hl : ys.length = n) (hz : n < sizeLine) (hG : ∀ H, Same H1 H → G H)
    (el : ∀ j x H H' y (Qk : VK), j < n → Same H1 H → Y j H x H' → ys[j]? = some y → H' = H ∧ ((∀ H4, Same H H4 → Qk y H4) → te ((wipe σ [i]).set i (some x)) H Qk))
    (fin : ∀ D H', Same H1 H' → H' D = some (.lst ys) → Q (.ref D) H') : lcGo J (gName i) tYes te [i] σ Q H1 := by
  intro D hD
  refine lc_it w (Pv := fun j H => H D = some (.lst (ys.take j)) ∧ Same H1 H) ⟨by rw [List.take_zero, upd_same], same_new hD _⟩ (fun j H _ p => hG H p.2) (fun j x H H' hj p y => ?_) (fun H p => fin D H p.2 (by rw [p.1, ← hl, List.take_length]))
  have hy : j < ys.length := by omega
  obtain ⟨rfl, q⟩ := el j x H H' ys[j] (fun y H4 => ∃ acc, H4 D = some (.lst acc) ∧ acc.length < sizeLine ∧ (upd H4 D (.lst (acc ++ [y]))) D = some (.lst (ys.take (j + 1))) ∧ Same H1 (upd H4 D (.lst (acc ++ [y])))) hj p.2 y (List.getElem?_eq_getElem hy)
  exact ⟨wipe_one σ i _, yes_ (q fun H4 s4 => ⟨ys.take j, s4 _ _ p.1, by rw [List.length_take]; omega, by rw [upd_same, List.take_succ_eq_append_getElem hy], same_upd (p.2.trans s4) hD⟩)⟩
/-- a part of the heap that grows by what is laid anew alone -/
structure Gr (G H G1 H1 : Hp) : Prop where
  g : Same G G1
  s : Same H H1
  i : Same G1 H1
  n : ∀ b o, G1 b = some o → G b = none → H b = none
theorem Gr.trans {G H G1 H1 G2 H2 : Hp} (a : Gr G H G1 H1) (b : Gr G1 H1 G2 H2) : Gr G H G2 H2 := by
  refine ⟨a.g.trans b.g, a.s.trans b.s, b.i, fun c o e f => ?_⟩
  cases q : G1 c with
  | none => exact a.s.free (b.n c o e q)
  | some o' => exact a.n c o' q f
theorem _root_.L2.Same.gr {G H H1 : Hp} (i : Same G H) (s : Same H H1) : Gr G H G H1 := ⟨.refl G, s, i.trans s, fun b o e f => by rw [e] at f; cases f⟩
theorem Gr.new {G H G1 H1 : Hp} (a : Gr G H G1 H1) {p : Addr} (hp : H1 p = none) (o : HO) : Gr G H (upd G1 p o) (upd H1 p o) := by
  have gp : G1 p = none := a.i.free hp
  refine ⟨a.g.trans (same_new gp o), a.s.trans (same_new hp o), fun b u e => ?_, fun b u e f => ?_⟩
  · by_cases h : b = p
    · rw [h, upd_same] at e ⊢
      exact e
    · rw [upd_ne h] at e ⊢
      exact a.i b u e
  · by_cases h : b = p
    · rw [h]
      exact a.s.free hp
    · rw [upd_ne h] at e
      exact a.n b u e f
theorem Gr.to {G H G1 H1 H2 : Hp} (a : Gr G H G1 H1) (s : Same H1 H2) : Gr G H G1 H2 := ⟨a.g, a.s.trans s, a.i.trans s, a.n⟩
/-- the answer of the law's own: a value, or a message; what the value leans on is in G, or new -/
def LOut (G H : Hp) (Q : VK) (r : Rs) : Prop := (∀ d, r = .ok d → ∀ v p G' H', Gr G H G' H' → H' p = some (.tup [v, .non]) → Rep G' v d → Q (.ref p) H') ∧ ∀ m, r = .error m → ∀ p H', Same H H' → H' p = some (.tup [.non, .str m]) → Q (.ref p) H'
section
variable {G G1 H H1 : Hp} {Q : VK} {r : Rs} {σ : L2.St} {te : TE}
theorem LOut.later (h : LOut G H Q r) (g : Gr G H G1 H1) : LOut G1 H1 Q r := ⟨fun d e v p G' H' g' => h.1 d e v p G' H' (g.trans g'), fun m e p H' s' => h.2 m e p H' (g.s.trans s')⟩
theorem LOut.same (h : LOut G H Q r) (i : Same G H) (s : Same H H1) : LOut G H1 Q r := h.later (i.gr s)
theorem LOut.put (h : LOut G H Q r) {d : Dat} {v : V} (e : r = .ok d) (g : Gr G H G1 H1) (R : Rep G1 v d) : 2 ≤ sizeLine ∧ ∀ p, H1 p = none → Q (.ref p) (upd H1 p (.tup [v, .non])) :=
  ⟨by decide, fun p hp => h.1 d e v p _ _ (g.to (same_new hp _)) upd_same R⟩
theorem LOut.good (h : LOut G H Q r) {d : Dat} {v : V} (e : r = .ok d) (g : Gr G H G1 H1) (R : Rep G1 v d) (hv : Val te σ H1 v) : tTup (tCons te (tCons (tC .non) tNil)) σ H1 Q := hv _ (h.put e g R)
theorem LOut.bad (h : LOut G H Q r) {m : Str} (e : r = .error m) (s : Same H H1) : tTup (tCons (tC .non) (tCons (tC (.str m)) tNil)) σ H1 Q :=
  ⟨by show 2 ≤ sizeLine; decide, fun p hp => h.2 m e p _ (s.trans (same_new hp _)) upd_same⟩
end
def spLMade : Sp := fun vs H Q _ => ∃ G v d, vs = [v] ∧ Same G H ∧ Rep G v d ∧ d.WD ∧ d.dep ≤ 22 ∧ LOut G H Q (made d)
def spLBN : Sp := fun vs H Q _ => ∃ G i, vs = [.int i] ∧ Same G H ∧ LOut G H Q (boundN i)
def spLBT : Sp := fun vs H Q _ => ∃ G x, vs = [.str x] ∧ Same G H ∧ x.length ≤ 5000 ∧ LOut G H Q (boundT x)
theorem max_dep {ds : List Dat} {m : Int} (h : m ∈ (0 : Int) :: ds.map fun d => ((d.dep : Nat) : Int)) (a : ∀ y ∈ (0 : Int) :: ds.map fun d => ((d.dep : Nat) : Int), y ≤ m) : m = ((depL ds : Nat) : Int) := by
  have up : ∀ ds : List Dat, depL ds = 0 ∨ ∃ d ∈ ds, d.dep = depL ds := by
    intro ds
    induction ds with
    | nil => exact .inl rfl
    | cons d r ih =>
      rw [depL]
      by_cases c : depL r ≤ d.dep
      · rw [Nat.max_eq_left c]
        exact .inr ⟨d, List.mem_cons_self, rfl⟩
      · rw [Nat.max_eq_right (by omega)]
        rcases ih with z | ⟨e, he, z⟩
        · omega
        · exact .inr ⟨e, List.mem_cons_of_mem _ he, z⟩
  have h0 : (0 : Int) ≤ m := a 0 List.mem_cons_self
  have l1 : m ≤ (depL ds : Nat) := by
    rcases List.mem_cons.mp h with e | e
    · omega
    · obtain ⟨d, hd, rfl⟩ := List.mem_map.mp e
      have := dep_mem hd
      omega
  rcases up ds with z | ⟨d, hd, z⟩
  · omega
  · have := a _ (List.mem_cons_of_mem _ (List.mem_map.mpr ⟨d, hd, rfl⟩))
    omega
theorem sum_sz : ∀ ds : List Dat, (ds.map fun d => ((d.sz : Nat) : Int)).sum = ((szL ds : Nat) : Int)
  | [] => rfl
  | d :: ds => by
    rw [List.map_cons, List.sum_cons, sum_sz ds, szL]
    omega
theorem mem3a (k : Kd) : decide (k.s ∈ [("list" : Str), "record", "act"]) = decide (k = .list ∨ k = .record ∨ k = .act) := by cases k <;> decide +kernel
section
variable {w : World} {K : PySem.W.Frag} {mg : Str → Option Value} {base : Heap} {n k : Nat}
abbrev s_L_depth : Stmt := topS 76
theorem sc_L_depth : FnScope ["_law_value_here", "_law_part"] ["_law_value_here"] (defScope s_L_depth) := ⟨rfl, rfl, rfl, by decide +kernel, rfl, by decide +kernel, by decide +kernel⟩
theorem cal_L_depth (D : DefA K mg "_law_depth" s_L_depth) (z : Nm mg) (hk : 2 ≤ k) (c__law_kind : Cal PP w K mg base CX0 1 "_law_kind" ["_law_value_here"] spKind) (c__law_parts : Cal PP w K mg base CX0 2 "_law_parts" ["_law_value_here"] spParts)
    (c__law_depth : Cal PP w K mg base CX0 k "_law_depth" ["_law_value_here"] (spDepth n)) : Cal PP w K mg base CX0 (k + 1) "_law_depth" ["_law_value_here"] (spDepth (n + 1)) := by
  have c__law_kind := c__law_kind.mono (show 1 ≤ k by omega)
  have c__law_parts := c__law_parts.mono hk
  refine cal_mk D sc_L_depth (fun _ _ _ _ _ _ us hl => match us, hl with | [_], _ => rfl) (fun vs H Q E h => ?_) (fun f cdv A outer s H vs Q E hr h => ?_)
  · obtain ⟨v, d, rfl, _⟩ := h
    rfl
  obtain ⟨v, d, rfl, R, wd, dp, q⟩ := h
  refine ⟨_, (pss_cons (ps_if (pt_cmpR op_notIn_seq (pe_cal c__law_kind hr (by rfl) (pa_cons (pv 0) pa_nil)) (pe_tup (pa_cons pe_str (pa_cons pe_str (pa_cons pe_str pa_nil)))) rfl) (pss_one (ps_ret pe_int)) pss_nil)
    (pss_one (ps_ret (pe_op op_add pe_int (pe_callB (call_maxA rfl) (by rfl) z.max (by decide +kernel) (pa_cons (pe_op op_cat (pe_lst (pa_cons pe_int pa_nil)) (pe_lc (own := [("_law_part", 1)]) (g := gName 1) (tt := tYes) rfl sc_L_depth.nd (pi_list (pe_cal c__law_parts hr (by rfl) (pa_cons (pv 0) pa_nil))) (blkOk_by (N := ["_law_value_here", "_law_part"]) (sc := defScope s_L_depth) (by decide +kernel)) (fun _ _ _ _ _ => pg_name (i := 1) sc_L_depth.nd rfl (Or.inl rfl)) (fun _ _ _ _ _ => pts_nil) (fun _ _ _ _ _ => (pe_cal c__law_depth hr (by rfl) (pa_cons (pv 1) pa_nil))))) pa_nil)))))), ?_⟩
  refine if_tstN (tin3 "list" "record" "act" fun Q q => ⟨_, rfl, v, d, rfl, R, q⟩) (fun h H1 s1 => ?_) fun h H1 s1 => ?_
  · have h : (!decide (d.kd.s ∈ [("list" : Str), "record", "act"])) = true := h
    rw [mem3a] at h
    have e2 : d.dep = 1 := by
      cases d <;> first | rfl | (simp [Dat.kd] at h; done)
    rw [e2] at q
    exact q _ s1
  · have h : (!decide (d.kd.s ∈ [("list" : Str), "record", "act"])) = false := h
    rw [mem3a] at h
    refine ⟨Nat.succ_le_of_lt (by decide), fun D hD => ⟨_, rfl, v, d, rfl, (R.mono (rds_of s1)).mono (rds_of (same_new hD _)), wd, fun p ws H2 s2 hp Rp => ⟨p, rfl, ⟨ws, .inl (.inl hp)⟩, ?_⟩⟩⟩
    have s12 := (s1.trans (same_new hD (.lst [.int 0]))).trans s2
    have ln := Rp.length
    have lp := parts_len wd
    have hD2 := s2 D _ upd_same
    refine lc_vals (Q := fun y H2 => rCat (.ref D) y H2 fun x H1 => ((∃ i j, [x] = [V.int i, V.int j] ∧ rI0 (fun i j => V.int (i + j)) (.int 1) (.int (if j > i then j else i)) H1 Q) ∨ rMax K [x] H1 fun y H2 => rI0 (fun i j => V.int (i + j)) (.int 1) y H2 Q)) walk_list (d.parts.map fun e => V.int (e.dep : Nat)) ((List.length_map _).trans ln.symm) (small2 (by omega)) (fun H3 s3 => .inl (.inl (s3 _ _ hp))) (fun j x H3 H' y Qk hj s3 hy e => ⟨hy.1, fun qk => ?_⟩) fun E H' s3 hE => ?_
    · obtain ⟨e', e1, r1⟩ := Rp.get hy.2
      rw [List.getElem?_map, e1] at e
      cases e
      have m := List.mem_of_getElem? e1
      have := dep_part m
      exact ⟨_, rfl, x, e', rfl, r1.mono (rds_of s3), (WDL.parts wd).mem m, by omega, qk⟩
    · refine ⟨D, E, [.int 0], d.parts.map fun e => V.int (e.dep : Nat), rfl, rfl, s3 _ _ hD2, hE, by rw [List.length_map]; exact Nat.le_trans (show 1 + d.parts.length ≤ 5001 by omega) (by decide), fun L hL => .inr ⟨L, (0 : Int) :: d.parts.map fun d => ((d.dep : Nat) : Int), rfl, .inl (.inl ?_), Nat.succ_pos _, fun m hm ha => ?_⟩⟩
      · rw [upd_same]
        show some (HO.lst (V.int 0 :: d.parts.map fun e => V.int (e.dep : Nat))) = some (HO.lst (V.int 0 :: (d.parts.map fun d => ((d.dep : Nat) : Int)).map V.int))
        rw [List.map_map]
        rfl
      · rw [max_dep hm ha]
        refine ⟨_, _, rfl, rfl, ?_⟩
        have e2 : (1 : Int) + ((depL d.parts : Nat) : Int) = ((d.dep : Nat) : Int) := by rw [dep_of d]; omega
        show Q (.int ((1 : Int) + ((depL d.parts : Nat) : Int))) _
        rw [e2]
        exact q _ ((s12.trans s3).trans (same_new hL _))
theorem cal_L_depth_n (D : DefA K mg "_law_depth" s_L_depth) (z : Nm mg) (c : Cal PP w K mg base CX0 1 "_law_kind" ["_law_value_here"] spKind) (c2 : Cal PP w K mg base CX0 2 "_law_parts" ["_law_value_here"] spParts) : ∀ n : Nat, Cal PP w K mg base CX0 (n + 2) "_law_depth" ["_law_value_here"] (spDepth n)
  | 0 => (Cal.never D (fun f fd F => F.bindsN fun _ _ _ _ _ _ us hl => match us, hl with | [_], _ => rfl) fun vs H Q E ⟨v, d, _, _, _, h, _⟩ => absurd (dep_pos d) (by omega)).mono (Nat.zero_le _)
  | n + 1 => cal_L_depth D z (by omega) c c2 (cal_L_depth_n D z c c2 n)
end
end Vk
set_option maxHeartbeats 4000000
/-! the law's own: size, texts, what is made, sums -/
namespace Vk
open PySem PySem.Spec PyProof.Rows L2
theorem pow30 : (10 : Int) ^ ((30 : Int).toNat) = big30 := by decide +kernel
theorem cpow30 : CPow 10 30 := ⟨by decide, by decide, by decide⟩
/-! ### pairs of kinds, in lists -/
theorem eqvL_pair (a b c d : Kd) : PyData.eqv (.list [.str a.s, .str b.s]) (.list [.str c.s, .str d.s]) = (decide (a = c) && decide (b = d)) := by
  have e : ∀ a c : Kd, (a.s == c.s) = decide (a = c) := fun a c => by cases a <;> cases c <;> decide +kernel
  show ((a.s == c.s) && ((b.s == d.s) && true)) = _
  rw [e, e, Bool.and_true]
theorem shapedL_pair (a b : Kd) : SeqAt.shaped (.list [.str a.s, .str b.s]) = true := by cases a <;> cases b <;> decide +kernel
section
variable {K : PySem.W.Frag} {σ : L2.St} {H : Hp} {i : Nat} {p : Addr} {a b : Kd}
theorem dpL_pair {H : Hp} {p : Addr} {a b : Kd} (hp : H p = some (.lst [.str a.s, .str b.s])) : Dp K H (.ref p) (.list [.str a.s, .str b.s]) := .lst (.inl (.inl hp)) (.cons (.str _) (.cons (.str _) .nil))
theorem pairL_eq (kx ky : Kd) (hs : σ[i]? = some (some (.ref p))) (hp : H p = some (.lst [.str a.s, .str b.s])) : Tst (tTest (tOp (rEqD K) (tVar i) (tLst (tCons (tC (.str kx.s)) (tCons (tC (.str ky.s)) tNil))))) σ H (decide (a = kx) && decide (b = ky)) :=
  fun Q q => ⟨_, hs, by show 2 ≤ sizeLine; decide, fun p2 h2 => ⟨_, _, dpL_pair (by rw [upd_ne (ne_of_none hp h2)]; exact hp), dpL_pair upd_same, shapedL_pair a b, shapedL_pair kx ky, _, congrArg V.bl (eqvL_pair a b kx ky), q _ (same_new h2 _)⟩⟩
theorem pairL_ne (kx ky : Kd) (hs : σ[i]? = some (some (.ref p))) (hp : H p = some (.lst [.str a.s, .str b.s])) : Tst (tTest (tOp (rNeD K) (tVar i) (tLst (tCons (tC (.str kx.s)) (tCons (tC (.str ky.s)) tNil))))) σ H (!(decide (a = kx) && decide (b = ky))) :=
  fun Q q => ⟨_, hs, by show 2 ≤ sizeLine; decide, fun p2 h2 => ⟨_, _, dpL_pair (by rw [upd_ne (ne_of_none hp h2)]; exact hp), dpL_pair upd_same, shapedL_pair a b, shapedL_pair kx ky, _, congrArg (fun z => V.bl (!z)) (eqvL_pair a b kx ky), q _ (same_new h2 _)⟩⟩
/-- kinds = [kind(x), kind(y)] -/
theorem kpairL {r : TS} {D : Ends} {v u : V} {d e : Dat} {j k : Nat} (h1 : σ[j]? = some (some v)) (R1 : Rep H v d) (h2 : σ[k]? = some (some u)) (R2 : Rep H u e)
    (q : ∀ p, H p = none → r D (σ.set i (some (.ref p))) (upd H p (.lst [.str d.kd.s, .str e.kd.s]))) : tSeq (tAsg (tLst (tCons (tCal spKind E0 (tCons (tVar j) tNil)) (tCons (tCal spKind E0 (tCons (tVar k) tNil)) tNil))) (gName i)) r D σ H :=
  ⟨v, h1, v, d, rfl, R1, u, h2, u, e, rfl, R2, by show 2 ≤ sizeLine; decide, q⟩
end
def spLTwo (f : Dat → Dat → Rs) : Sp := fun vs H Q _ => ∃ G v u d e, vs = [v, u] ∧ Same G H ∧ Rep G v d ∧ Rep G u e ∧ Bd d ∧ Bd e ∧ LOut G H Q (f d e)
def spLQuot : Sp := fun vs H Q _ => ∃ i j, vs = [.int i, .int j] ∧ (-big30 ≤ j ∧ j ≤ big30) ∧ j ≠ 0 ∧ Q (.int (quot i j)) H
section
variable {te : TE} {g : TG} {D : Ends} {σ : L2.St} {H : Hp} {Q : VK} {x : V}
theorem asg1 (h : te σ H fun v H1 => g v σ H1 D.nx) : tAsg te g D σ H := h
theorem op1 {r : R2} (h : te σ H fun y H1 => r x y H1 Q) : tOp r (tC x) te σ H Q := h
theorem cb1 {r : List V → Hp → VK → Prop} (h : te σ H fun x H1 => r [x] H1 Q) : tCB r (tCons te tNil) σ H Q := h
theorem cal1 {sp : Sp} {E : XK} {t : TA} (h : te σ H fun x H1 => t σ H1 fun xs H2 => sp (x :: xs) H2 Q E) : tCal sp E (tCons te t) σ H Q := h
theorem lockRS {t r : TS} {a : Addr} {kvs : List (Key × V)} (h : Rd H a (.dK kvs))
    (k : ∀ (o : Obj) (H1 : Hp) (un : Hp → Hp) (D1 : Ends), UnLk H H1 a un kvs o → (∀ σ' H', H' a = some (.frz o (.dK kvs)) → r D σ' (un H') → D1.nx σ' H') → (∀ v H', H' a = some (.frz o (.dK kvs)) → D.rt v (un H') → D1.rt v H') → t D1 σ H1) : tSeq (tLockR t) r D σ H :=
  lockR_on (D := { D with nx := r D }) h k
theorem dputS {td ty tv : TE} {r : TS} (h : tv σ H fun v H1 => td σ H1 fun x H2 => ty σ H2 fun y H3 => ∃ a H4, x = .ref a ∧ DPut H3 a y v H4 ∧ r D σ H4) : tSeq (sDPut td ty tv) r D σ H := h
theorem asgN {i : Nat} {r : TS} (h : te σ H fun v H1 => r D (σ.set i (some v)) H1) : tAsg te (gName i) { D with nx := r D } σ H := h
theorem m1c {r : V → List V → Hp → VK → Prop} {a : Str} (h : te σ H fun y H1 => r (.str a) [y] H1 Q) : tM1 r (tC (.str a)) te σ H Q := ⟨⟨a, rfl⟩, h⟩
end
theorem mem2t (k : Kd) : decide (k.s ∈ [("number" : Str), "text"]) = decide (k = .number ∨ k = .text) := by cases k <;> decide +kernel
section
variable {w : World} {K : PySem.W.Frag} {mg : Str → Option Value} {base : Heap} {n k : Nat}
abbrev s_L_size : Stmt := topS 77
theorem sc_L_size : FnScope ["_law_value_here", "_law_kind_here", "_law_own", "_law_name", "_law_part"] ["_law_value_here"] (defScope s_L_size) := ⟨rfl, rfl, rfl, by decide +kernel, rfl, by decide +kernel, by decide +kernel⟩
theorem cal_L_size (D : DefA K mg "_law_size" s_L_size) (z : Nm mg) (hk : 2 ≤ k) (c__law_kind : Cal PP w K mg base CX0 1 "_law_kind" ["_law_value_here"] spKind) (c__law_parts : Cal PP w K mg base CX0 2 "_law_parts" ["_law_value_here"] spParts)
    (c__law_size : Cal PP w K mg base CX0 k "_law_size" ["_law_value_here"] (spSize n)) : Cal PP w K mg base CX0 (k + 1) "_law_size" ["_law_value_here"] (spSize (n + 1)) := by
  have c__law_kind := c__law_kind.mono (show 1 ≤ k by omega)
  have c__law_parts := c__law_parts.mono hk
  refine cal_mk D sc_L_size (fun _ _ _ _ _ _ us hl => match us, hl with | [_], _ => rfl) (fun vs H Q E h => ?_) (fun f cdv A outer s H vs Q E hr h => ?_)
  · obtain ⟨v, d, rfl, _⟩ := h
    rfl
  obtain ⟨v, d, rfl, R, wd, dp, q⟩ := h
  refine ⟨_, (pss_cons (ps_set (i := 1) sc_L_size.nd rfl (Or.inl rfl) (pe_cal c__law_kind hr (by rfl) (pa_cons (pv 0) pa_nil)))
    (pss_cons (ps_set (i := 2) sc_L_size.nd rfl (Or.inl rfl) pe_int)
    (pss_cons (ps_if (pt_cmpR op_eq (pv 1) pe_str (nomark _)) (pss_one (ps_set (i := 2) sc_L_size.nd rfl (Or.inl rfl) (pe_op op_add pe_int (pe_callB (call_lenK (K := K) rfl) (by rfl) z.len (by decide +kernel) (pa_cons (pv 0) pa_nil))))) pss_nil)
    (pss_cons (ps_if (pt_cmpR op_eq (pv 1) pe_str (nomark _)) (pss_one (ps_set (i := 2) sc_L_size.nd rfl (Or.inl rfl) (pe_op op_add pe_int (pe_callB (call_lenK (K := K) rfl) (by rfl) z.len (by decide +kernel) (pa_cons (pe_join pe_str (pe_lockR (pe_lc (own := [("_law_name", 3)]) (g := gName 3) (tt := tYes) rfl sc_L_size.nd (pi_keys (pv 0)) (blkOk_by (N := ["_law_value_here", "_law_kind_here", "_law_own", "_law_name", "_law_part"]) (sc := defScope s_L_size) (by decide +kernel)) (fun _ _ _ _ _ => pg_name (i := 3) sc_L_size.nd rfl (Or.inl rfl)) (fun _ _ _ _ _ => pts_nil) (fun _ _ _ _ _ => (pv 3))))) pa_nil))))) pss_nil)
    (pss_cons (ps_if (pt_cmpR op_eq (pv 1) pe_str (nomark _)) (pss_one (ps_set (i := 2) sc_L_size.nd rfl (Or.inl rfl) (pe_op op_add pe_int (pe_callB (call_lenK (K := K) rfl) (by rfl) z.len (by decide +kernel) (pa_cons (pe_ix ix_tup (pv 0) pe_int (fun _ _ => rfl)) pa_nil))))) pss_nil)
    (pss_one (ps_ret (pe_op op_add (pv 2) (pe_callB (cr_sum rfl) (by rfl) z.sum (by decide +kernel) (pa_cons (pe_lc (own := [("_law_part", 4)]) (g := gName 4) (tt := tYes) rfl sc_L_size.nd (pi_list (pe_cal c__law_parts hr (by rfl) (pa_cons (pv 0) pa_nil))) (blkOk_by (N := ["_law_value_here", "_law_kind_here", "_law_own", "_law_name", "_law_part"]) (sc := defScope s_L_size) (by decide +kernel)) (fun _ _ _ _ _ => pg_name (i := 4) sc_L_size.nd rfl (Or.inl rfl)) (fun _ _ _ _ _ => pts_nil) (fun _ _ _ _ _ => (pe_cal c__law_size hr (by rfl) (pa_cons (pv 4) pa_nil)))) pa_nil)))))))))), ?_⟩
  have fin : ∀ (x3 : Option V) H1, Same H H1 → tRet (tOp (rI0 fun i j => .int (i + j)) (tVar 2) (tCB (rSum K) (tCons (tLc (iList K (tCal spParts E0 (tCons (tVar 0) tNil))) (gName 4) tYes (tCal (spSize n) E0 (tCons (tVar 4) tNil)) [4]) tNil))) { nx := fun _ H' => Q .non H', rt := Q } [some v, some (.str d.kd.s), some (.int ((1 + ownSz d : Nat) : Int)), x3, none] H1 := fun x3 H1 s1 => by
    refine ⟨_, rfl, _, rfl, v, d, rfl, R.mono (rds_of s1), wd, fun p ws H2 s2 hp Rp => ⟨p, rfl, ⟨ws, .inl (.inl hp)⟩, ?_⟩⟩
    have ln := Rp.length
    have lp := parts_len wd
    refine lc_vals (Q := fun x H2 => rSum K [x] H2 fun y H3 => rI0 (fun i j => V.int (i + j)) (.int ((1 + ownSz d : Nat) : Int)) y H3 Q) walk_list (d.parts.map fun e => V.int (e.sz : Nat)) ((List.length_map _).trans ln.symm) (small2 (by omega)) (fun H3 s3 => .inl (.inl (s3 _ _ hp))) (fun j x H3 H' y Qk hj s3 hy e => ⟨hy.1, fun qk => ?_⟩) fun E H' s3 hE => ?_
    · obtain ⟨e', e1, r1⟩ := Rp.get hy.2
      rw [List.getElem?_map, e1] at e
      cases e
      have m := List.mem_of_getElem? e1
      have := dep_part m
      exact ⟨_, rfl, x, e', rfl, r1.mono (rds_of s3), (WDL.parts wd).mem m, by omega, qk⟩
    · refine ⟨E, d.parts.map fun d => ((d.sz : Nat) : Int), rfl, .inl (.inl ?_), _, _, rfl, rfl, ?_⟩
      · rw [hE, List.map_map]
        rfl
      · rw [sum_sz]
        have e0 := sz_of d
        have e2 : ((1 + ownSz d : Nat) : Int) + ((szL d.parts : Nat) : Int) = ((d.sz : Nat) : Int) := by omega
        show Q (.int (((1 + ownSz d : Nat) : Int) + ((szL d.parts : Nat) : Int))) _
        rw [e2]
        exact q _ ((s1.trans s2).trans s3)
  have skip : ∀ m : Nat, ownSz d = m → ((1 + ownSz d : Nat) : Int) = 1 + (m : Nat) := fun m h => by omega
  refine kset rfl R (setS ?_)
  cases R with
  | @str x =>
    refine ifkS (k := .text) .text rfl (fun _ => ?_) fun n1 => absurd rfl n1
    refine ⟨_, rfl, .inl ⟨_, x.length, rfl, ⟨small5 wd, rfl⟩, _, _, rfl, rfl, ?_⟩⟩
    exact ifkN (k := .text) .record rfl (fun h => by cases h) fun _ => ifkN (k := .text) .act rfl (fun h => by cases h) fun _ => by
      have := fin none H (.refl H)
      rw [skip x.length rfl] at this
      exact this
  | @rcd a kvs ks ds h hk1 r =>
    refine ifkN (k := .record) .text rfl (fun h => by cases h) fun _ => ifkS (k := .record) .record rfl (fun _ => ?_) fun n1 => absurd rfl n1
    have l1 := keys_len hk1
    have l2 := wd.2.2.1
    refine asg1 (op1 (cb1 (m1c (lockER_on h fun o H3 un Q1 u hq => ⟨_, rfl, _, _, rfl, .inl ⟨kvs, u.at1, ?_⟩⟩))))
    refine lc_pure walk_keys (ks.map V.str) ((List.length_map _).trans l1.symm) (small1000 (by omega)) (fun H2 s => s _ _ u.at1) (fun j x H2 H' y Qk hj s3 hy e => ⟨hy.1, fun qk => ?_⟩) fun L hL => ?_
    · obtain ⟨kk, v, hv, rfl⟩ := hy.2
      obtain ⟨kx, rfl, hkx⟩ := key_at hk1 hv
      rw [List.getElem?_map, hkx] at e
      cases e
      exact ⟨_, rfl, qk⟩
    · have na : ∀ o', (upd H3 L o') a = some (.frz o (.dK kvs)) := fun o' => by
        rw [upd_ne (ne_of_none u.at1 hL)]
        exact u.at1
      have hle : ∀ l : List Str, (∀ k ∈ l, KeyOk k) → (l.map (·.length)).sum ≤ l.length * 5000 := by
        intro l
        induction l with
        | nil => intro _; exact Nat.le_refl _
        | cons y l ih =>
          intro hh
          have i1 := ih fun k hk => hh k (List.mem_cons_of_mem _ hk)
          have i2 := (hh y List.mem_cons_self).1
          rw [List.map_cons, List.sum_cons, List.length_cons]
          omega
      have hsum := hle ks wd.2.2.2.1
      have hgl : (Txt.join "" ks).length = lens ks := by
        have := size_glued "" ks
        rw [show (("" : Str).length) = 0 from rfl, Nat.mul_zero, Nat.add_zero] at this
        exact this
      refine hq _ _ (na _) ⟨"", L, ks, rfl, rfl, .inl (.inl (.inl ?_)), ?_, .inl ⟨_, lens ks, rfl, ⟨?_, hgl.symm⟩, _, _, rfl, rfl, ?_⟩⟩
      · exact ((u.back (upd H3 L _) (na _)).2 L (fun e => (ne_of_none u.at1 hL) e.symm)).trans upd_same
      · rw [show (("" : Str).length) = 0 from rfl, Nat.mul_zero]
        omega
      · rw [hgl]
        unfold lens
        exact Nat.le_trans hsum (Nat.le_trans (show ks.length * 5000 ≤ 300000 by omega) (by decide))
      · exact ifkN (k := .record) .act rfl (fun h => by cases h) fun _ => by
          have := fin none _ (u.un (same_new hL (.lst (ks.map V.str))))
          rw [skip (lens ks) rfl] at this
          exact this
  | @act a b o nm us ds h h2 r =>
    refine ifkN (k := .act) .text rfl (fun h => by cases h) fun _ => ifkN (k := .act) .record rfl (fun h => by cases h) fun _ => ifkS (k := .act) .act rfl (fun _ => ?_) fun n1 => absurd rfl n1
    refine ⟨_, rfl, _, _, 2, _, rfl, rfl, .inl (.inl h), rfl, .inl ⟨_, nm.length, rfl, ⟨small5 wd.2.1, rfl⟩, _, _, rfl, rfl, ?_⟩⟩
    have := fin none H (.refl H)
    rw [skip nm.length rfl] at this
    exact this
  | non => exact ifkN (k := .null) .text rfl (fun h => by cases h) fun _ => ifkN (k := .null) .record rfl (fun h => by cases h) fun _ => ifkN (k := .null) .act rfl (fun h => by cases h) fun _ => fin none H (.refl H)
  | bl => exact ifkN (k := .boolean) .text rfl (fun h => by cases h) fun _ => ifkN (k := .boolean) .record rfl (fun h => by cases h) fun _ => ifkN (k := .boolean) .act rfl (fun h => by cases h) fun _ => fin none H (.refl H)
  | int => exact ifkN (k := .number) .text rfl (fun h => by cases h) fun _ => ifkN (k := .number) .record rfl (fun h => by cases h) fun _ => ifkN (k := .number) .act rfl (fun h => by cases h) fun _ => fin none H (.refl H)
  | lst => exact ifkN (k := .list) .text rfl (fun h => by cases h) fun _ => ifkN (k := .list) .record rfl (fun h => by cases h) fun _ => ifkN (k := .list) .act rfl (fun h => by cases h) fun _ => fin none H (.refl H)
theorem cal_L_size_n (D : DefA K mg "_law_size" s_L_size) (z : Nm mg) (c : Cal PP w K mg base CX0 1 "_law_kind" ["_law_value_here"] spKind) (c2 : Cal PP w K mg base CX0 2 "_law_parts" ["_law_value_here"] spParts) : ∀ n : Nat, Cal PP w K mg base CX0 (n + 2) "_law_size" ["_law_value_here"] (spSize n)
  | 0 => (Cal.never D (fun f fd F => F.bindsN fun _ _ _ _ _ _ us hl => match us, hl with | [_], _ => rfl) fun vs H Q E ⟨v, d, _, _, _, h, _⟩ => absurd (dep_pos d) (by omega)).mono (Nat.zero_le _)
  | n + 1 => cal_L_size D z (by omega) c c2 (cal_L_size_n D z c c2 n)
end
end Vk
set_option maxHeartbeats 4000000
/-! the law's own: texts, what is made, sums -/
namespace Vk
open PySem PySem.Spec PyProof.Rows L2
section
variable {w : World} {K : PySem.W.Frag} {mg : Str → Option Value} {base : Heap} {n k : Nat}
abbrev s_L_text_of : Stmt := topS 78
theorem sc_L_text_of : FnScope ["_law_value_here", "_law_kind_here"] ["_law_value_here"] (defScope s_L_text_of) := ⟨rfl, rfl, rfl, by decide +kernel, rfl, by decide +kernel, by decide +kernel⟩
theorem cal_L_text_of (D : DefA K mg "_law_text_of" s_L_text_of) (z : Nm mg) (c__law_kind : Cal PP w K mg base CX0 1 "_law_kind" ["_law_value_here"] spKind) : Cal PP w K mg base CX0 2 "_law_text_of" ["_law_value_here"] (fun vs H Q E => ∃ v d, vs = [v] ∧ Rep H v d ∧ d.WD ∧ ∀ H', Same H H' → Q (ofO (textD d)) H') := by
  refine cal_mk D sc_L_text_of (fun _ _ _ _ _ _ us hl => match us, hl with | [_], _ => rfl) (fun vs H Q E h => ?_) (fun f cdv A outer s H vs Q E hr h => ?_)
  · obtain ⟨v, d, rfl, _⟩ := h
    rfl
  obtain ⟨v, d, rfl, R, wd, q⟩ := h
  refine ⟨_, (pss_cons (ps_set (i := 1) sc_L_text_of.nd rfl (Or.inl rfl) (pe_cal c__law_kind hr (by rfl) (pa_cons (pv 0) pa_nil)))
    (pss_cons (ps_if (pt_cmpR op_eq (pv 1) pe_str (nomark _)) (pss_one (ps_ret pe_str)) pss_nil)
    (pss_cons (ps_if (pt_cmpR op_eq (pv 1) pe_str (nomark _)) (pss_one (ps_ret (pe_ix ix_list (pe_lst (pa_cons pe_str (pa_cons pe_str pa_nil))) (pe_callTy call_int1 (by rfl) z.int (by decide +kernel) (pa_cons (pv 0) pa_nil)) (fun _ _ => rfl)))) pss_nil)
    (pss_cons (ps_if (pt_cmpR op_in_seq (pv 1) (pe_tup (pa_cons pe_str (pa_cons pe_str pa_nil))) rfl) (pss_one (ps_ret (pe_callTy call_strA (by rfl) z.str (by decide +kernel) (pa_cons (pv 0) pa_nil)))) pss_nil)
    (pss_one (ps_ret pe_non)))))), ?_⟩
  refine kset rfl R (ifkN .null rfl (fun e => ?_) fun n1 => ifkN .boolean rfl (fun e => ?_) fun n2 => if_tstN (tin2 "number" "text" (val_var rfl)) (fun h H1 s1 => ?_) fun h H1 s1 => ?_)
  · cases R with
    | non => exact q _ (.refl H)
    | _ => cases e
  · cases R with
    | bl b =>
      refine ⟨by show 2 ≤ sizeLine; decide, fun p hp => ⟨_, rfl, .inr ⟨b, rfl, ?_⟩⟩⟩
      have s1 := same_new hp (.lst [.str "false", .str "true"])
      cases b with
      | true => exact ⟨p, _, 1, _, rfl, rfl, .inl (.inl upd_same), rfl, q _ s1⟩
      | false => exact ⟨p, _, 0, _, rfl, rfl, .inl (.inl upd_same), rfl, q _ s1⟩
    | _ => cases e
  · have h : decide (d.kd.s ∈ [("number" : Str), "text"]) = true := h
    rw [mem2t] at h
    cases R with
    | int i => exact ⟨_, rfl, .inl ⟨i, rfl, small_log wd, q _ s1⟩⟩
    | str i => exact ⟨_, rfl, .inr ⟨i, rfl, q _ s1⟩⟩
    | _ => simp [Dat.kd] at h
  · have h : decide (d.kd.s ∈ [("number" : Str), "text"]) = false := h
    rw [mem2t] at h
    cases R with
    | non => exact absurd rfl n1
    | bl => exact absurd rfl n2
    | int => simp [Dat.kd] at h
    | str => simp [Dat.kd] at h
    | _ => exact q _ s1
abbrev s_L_made : Stmt := topS 79
theorem sc_L_made : FnScope ["_law_value_here"] ["_law_value_here"] (defScope s_L_made) := ⟨rfl, rfl, rfl, by decide +kernel, rfl, by decide +kernel, by decide +kernel⟩
theorem cal_L_made (D : DefA K mg "_law_made" s_L_made) (z : Nm mg) (c__law_depth : Cal PP w K mg base CX0 24 "_law_depth" ["_law_value_here"] (spDepth 22)) (c__law_size : Cal PP w K mg base CX0 24 "_law_size" ["_law_value_here"] (spSize 22)) : Cal PP w K mg base CX0 25 "_law_made" ["_law_value_here"] spLMade := by
  refine cal_mk D sc_L_made (fun _ _ _ _ _ _ us hl => match us, hl with | [_], _ => rfl) (fun vs H Q E h => ?_) (fun f cdv A outer s H vs Q E hr h => ?_)
  · obtain ⟨G, v, d, rfl, _⟩ := h
    rfl
  obtain ⟨G, v, d, rfl, hG, R0, wd, dp, q⟩ := h
  have R := R0.mono (rds_of hG)
  refine ⟨_, (pss_cons (ps_if (PW.pt (pw_and (pt_val (pe_callB call_isi (by rfl) z.isinstance (by decide +kernel) (pa_cons (pv 0) (pa_cons (pe_ty rfl z.list PyProof.Rows.Boot.«list») pa_nil)))) (pw_and1 (pt_cmpR op_gt (pe_callB (call_lenK (K := K) rfl) (by rfl) z.len (by decide +kernel) (pa_cons (pv 0) pa_nil)) pe_int (nomark _))))) (pss_one (ps_ret (pe_tup (pa_cons pe_non (pa_cons pe_str pa_nil))))) pss_nil)
    (pss_cons (ps_if (pt_cmpR op_gt (pe_cal c__law_depth hr (by rfl) (pa_cons (pv 0) pa_nil)) pe_int (nomark _)) (pss_one (ps_ret (pe_tup (pa_cons pe_non (pa_cons pe_str pa_nil))))) pss_nil)
    (pss_cons (ps_if (pt_cmpR op_gt (pe_cal c__law_size hr (by rfl) (pa_cons (pv 0) pa_nil)) pe_int (nomark _)) (pss_one (ps_ret (pe_tup (pa_cons pe_non (pa_cons pe_str pa_nil))))) pss_nil)
    (pss_one (ps_ret (pe_tup (pa_cons (pv 0) (pa_cons pe_non pa_nil)))))))), ?_⟩
  have ty := R.ty (K := K)
  refine if_pureN (p := decide (d.kd = .list) && many d) (PureT.and (fun Q q => ?_) fun h Q q => ?_) (fun h => ?_) fun h => ?_
  · refine ⟨_, rfl, _, _, _, _, decide (d.kd = .list), rfl, .ty _, ty, kit_ty (by cases d <;> first | rfl | decide +kernel), _, rfl, q⟩
  · have h := of_decide_eq_true h
    cases R with
    | @lst a vs ds h1 r1 =>
      have e : decide ((200 : Int) < (vs.length : Nat)) = many (.lst ds) := decide_eq_decide.mpr (by rw [r1.length]; omega)
      exact ⟨_, rfl, .inl ⟨_, vs.length, rfl, .inl ⟨vs, .inl (.inl h1), rfl⟩, _, _, rfl, rfl, _, rfl, e ▸ q⟩⟩
    | _ => cases h
  · have h : many d = true := by
      rw [Bool.and_eq_true] at h
      exact h.2
    exact q.bad (by unfold made; rw [if_pos h]) (.refl H)
  · have hm : ¬ many d = true := fun e => by
      rw [e, Bool.and_true] at h
      cases d with
      | lst => cases h
      | _ => cases e
    refine if_tstN (p := decide (20 < d.dep)) (fun Q q => ⟨_, rfl, v, d, rfl, R, wd, dp, fun H' s => ⟨_, _, rfl, rfl, _, rfl, ?_⟩⟩) (fun h H1 s1 => ?_) fun h H1 s1 => ?_
    · have e : decide ((20 : Int) < (d.dep : Nat)) = decide (20 < d.dep) := decide_eq_decide.mpr (by omega)
      exact e ▸ q H' s
    · exact q.bad (by unfold made; rw [if_neg hm, if_pos (of_decide_eq_true h)]) s1
    · have h1 := of_decide_eq_false h
      refine if_tstN (p := decide (2000 < d.sz)) (fun Q q => ⟨_, rfl, v, d, rfl, R.mono (rds_of s1), wd, dp, fun H' s => ⟨_, _, rfl, rfl, _, rfl, ?_⟩⟩) (fun h H2 s2 => ?_) fun h H2 s2 => ?_
      · have e : decide ((2000 : Int) < (d.sz : Nat)) = decide (2000 < d.sz) := decide_eq_decide.mpr (by omega)
        exact e ▸ q H' s
      · exact q.bad (by unfold made; rw [if_neg hm, if_neg (by omega), if_pos (of_decide_eq_true h)]) (s1.trans s2)
      · have h2 := of_decide_eq_false h
        exact q.good (d := d) (v := v) (by unfold made; rw [if_neg hm, if_neg (by omega), if_neg (by omega)]) (hG.gr (s1.trans s2)) R0 (val_var rfl)
abbrev s_L_bounded : Stmt := topS 80
theorem sc_L_bounded : FnScope ["_law_number_here"] ["_law_number_here"] (defScope s_L_bounded) := ⟨rfl, rfl, rfl, by decide +kernel, rfl, by decide +kernel, by decide +kernel⟩
theorem cal_L_bounded (D : DefA K mg "_law_bounded" s_L_bounded) : Cal PP w K mg base CX0 1 "_law_bounded" ["_law_number_here"] spLBN := by
  refine cal_mk D sc_L_bounded (fun _ _ _ _ _ _ us hl => match us, hl with | [_], _ => rfl) (fun vs H Q E h => ?_) (fun f cdv A outer s H vs Q E hr h => ?_)
  · obtain ⟨G, i, rfl, _⟩ := h
    rfl
  obtain ⟨G, i, rfl, hG, q⟩ := h
  refine ⟨_, (pss_cons (ps_if (PW.pt (pw_or (pt_cmpR op_gt (pv 0) (pe_op op_pow pe_int pe_int) (nomark _)) (pw_or1 (pt_cmpR op_lt (pv 0) (pe_op op_sub pe_int (pe_op op_pow pe_int pe_int)) (nomark _))))) (pss_one (ps_ret (pe_tup (pa_cons pe_non (pa_cons pe_str pa_nil))))) pss_nil)
    (pss_one (ps_ret (pe_tup (pa_cons (pv 0) (pa_cons pe_non pa_nil)))))), ?_⟩
  have e1 : (10 : Int) ^ (30 : Int).toNat = big30 := pow30
  refine if_pureN (p := decide (big30 < i) || decide (i < -big30)) (PureT.or (fun Q q => ⟨_, rfl, _, _, rfl, rfl, cpow30, _, _, rfl, rfl, _, rfl, ?_⟩) fun _ Q q => ⟨_, rfl, _, _, rfl, rfl, cpow30, _, _, rfl, rfl, _, _, rfl, rfl, _, rfl, ?_⟩) (fun h => ?_) fun h => ?_
  · rw [e1]
    exact q
  · rw [e1, Int.zero_sub]
    exact q
  · exact q.bad (by unfold boundN; rw [if_pos (by simpa using h)]) (.refl H)
  · exact q.good (d := .int i) (v := .int i) (by unfold boundN; rw [if_neg (by simpa using h)]) (hG.gr (.refl H)) (.int i) (val_var rfl)
abbrev s_L_joined : Stmt := topS 81
theorem sc_L_joined : FnScope ["_law_text_here"] ["_law_text_here"] (defScope s_L_joined) := ⟨rfl, rfl, rfl, by decide +kernel, rfl, by decide +kernel, by decide +kernel⟩
theorem cal_L_joined (D : DefA K mg "_law_joined" s_L_joined) (z : Nm mg) : Cal PP w K mg base CX0 1 "_law_joined" ["_law_text_here"] spLBT := by
  refine cal_mk D sc_L_joined (fun _ _ _ _ _ _ us hl => match us, hl with | [_], _ => rfl) (fun vs H Q E h => ?_) (fun f cdv A outer s H vs Q E hr h => ?_)
  · obtain ⟨G, x, rfl, _⟩ := h
    rfl
  obtain ⟨G, x, rfl, hG, ln, q⟩ := h
  refine ⟨_, (pss_cons (ps_if (pt_cmpR op_gt (pe_callB (call_lenK (K := K) rfl) (by rfl) z.len (by decide +kernel) (pa_cons (pv 0) pa_nil)) pe_int (nomark _)) (pss_one (ps_ret (pe_tup (pa_cons pe_non (pa_cons pe_str pa_nil))))) pss_nil)
    (pss_one (ps_ret (pe_tup (pa_cons (pv 0) (pa_cons pe_non pa_nil)))))), ?_⟩
  refine if_pureN (p := decide (2000 < x.length)) (fun Q q => ⟨_, rfl, .inl ⟨_, x.length, rfl, ⟨small5 ln, rfl⟩, _, _, rfl, rfl, _, rfl, ?_⟩⟩) (fun h => ?_) fun h => ?_
  · have e : decide ((2000 : Int) < (x.length : Nat)) = decide (2000 < x.length) := decide_eq_decide.mpr (by omega)
    exact e ▸ q
  · exact q.bad (by unfold boundT; rw [if_pos (of_decide_eq_true h)]) (.refl H)
  · exact q.good (d := .str x) (v := .str x) (by unfold boundT; rw [if_neg (of_decide_eq_false h)]) (hG.gr (.refl H)) (.str x) (val_var rfl)
abbrev s_L_quotient : Stmt := topS 82
theorem sc_L_quotient : FnScope ["_law_first", "_law_second", "_law_whole"] ["_law_first", "_law_second"] (defScope s_L_quotient) := ⟨rfl, rfl, rfl, by decide +kernel, rfl, by decide +kernel, by decide +kernel⟩
theorem cal_L_quotient (D : DefA K mg "_law_quotient" s_L_quotient) (z : Nm mg) : Cal PP w K mg base CX0 1 "_law_quotient" ["_law_first", "_law_second"] spLQuot := by
  refine cal_mk D sc_L_quotient (fun _ _ _ _ _ _ us hl => match us, hl with | [_, _], _ => rfl) (fun vs H Q E h => ?_) (fun f cdv A outer s H vs Q E hr h => ?_)
  · obtain ⟨i, j, rfl, _⟩ := h
    rfl
  obtain ⟨i, j, rfl, bj, hj, q1⟩ := h
  refine ⟨_, (pss_cons (ps_set (i := 2) sc_L_quotient.nd rfl (Or.inl rfl) (pe_op op_fdivW (pe_callB call_abs (by rfl) z.abs (by decide +kernel) (pa_cons (pv 0) pa_nil)) (pe_callB call_abs (by rfl) z.abs (by decide +kernel) (pa_cons (pv 1) pa_nil))))
    (pss_cons (ps_if (pt_cmpR op_ne (pe_cmpR op_lt (pv 0) pe_int (nomark _)) (pe_cmpR op_lt (pv 1) pe_int (nomark _)) (nomark _)) (pss_one (ps_ret (pe_op op_sub pe_int (pv 2)))) pss_nil)
    (pss_one (ps_ret (pv 2))))), ?_⟩
  have ea : ∀ i : Int, (if i < 0 then -i else i) = (i.natAbs : Int) := fun i => by split <;> omega
  refine setS ⟨_, rfl, i, rfl, _, rfl, j, rfl, ?_⟩
  rw [ea, ea]
  have hl := lt100 bj
  refine ⟨_, _, rfl, rfl, wide_div (b := 100) (by omega) (by rw [Int.natAbs_natCast]; exact hl) (by decide) (by decide), ?_⟩
  unfold quot at q1
  refine if_pureN (p := decide (i < 0) != decide (j < 0)) (fun Q q => ⟨_, rfl, _, _, rfl, rfl, _, rfl, _, _, rfl, rfl, rfl, _, rfl, ?_⟩) (fun h => ?_) fun h => ?_
  · rw [dec_bl]
    exact q
  · rw [if_pos h, ← Int.zero_sub] at q1
    exact ⟨_, rfl, _, _, rfl, rfl, q1⟩
  · rw [if_neg (by rw [h]; exact Bool.false_ne_true)] at q1
    exact ⟨_, rfl, q1⟩
abbrev s_L_sum : Stmt := topS 83
theorem sc_L_sum : FnScope ["_law_first", "_law_second", "_law_kinds", "_law_left", "_law_right_here"] ["_law_first", "_law_second"] (defScope s_L_sum) := ⟨rfl, rfl, rfl, by decide +kernel, rfl, by decide +kernel, by decide +kernel⟩
theorem cal_L_sum (D : DefA K mg "_law_sum" s_L_sum) (z : Nm mg) (c__law_kind : Cal PP w K mg base CX0 1 "_law_kind" ["_law_value_here"] spKind) (c__law_text_of : Cal PP w K mg base CX0 2 "_law_text_of" ["_law_value_here"] (fun vs H Q E => ∃ v d, vs = [v] ∧ Rep H v d ∧ d.WD ∧ ∀ H', Same H H' → Q (ofO (textD d)) H'))
    (c__law_bounded : Cal PP w K mg base CX0 1 "_law_bounded" ["_law_number_here"] spLBN) (c__law_joined : Cal PP w K mg base CX0 1 "_law_joined" ["_law_text_here"] spLBT) (c__law_made : Cal PP w K mg base CX0 25 "_law_made" ["_law_value_here"] spLMade) :
    Cal PP w K mg base CX0 26 "_law_sum" ["_law_first", "_law_second"] (spLTwo addD) := by
  have c__law_kind := c__law_kind.mono (show 1 ≤ 25 by decide)
  have c__law_text_of := c__law_text_of.mono (show 2 ≤ 25 by decide)
  have c__law_bounded := c__law_bounded.mono (show 1 ≤ 25 by decide)
  have c__law_joined := c__law_joined.mono (show 1 ≤ 25 by decide)
  refine cal_mk D sc_L_sum (fun _ _ _ _ _ _ us hl => match us, hl with | [_, _], _ => rfl) (fun vs H Q E h => ?_) (fun f cdv A outer s H vs Q E hr h => ?_)
  · obtain ⟨G, v, u, d, e, rfl, _⟩ := h
    rfl
  obtain ⟨G, v, u, d, e, rfl, hG, G1, G2, b1, b2, q⟩ := h
  have R1 := G1.mono (rds_of hG)
  have R2 := G2.mono (rds_of hG)
  refine ⟨_, (pss_cons (ps_set (i := 2) sc_L_sum.nd rfl (Or.inl rfl) (pe_lst (pa_cons (pe_cal c__law_kind hr (by rfl) (pa_cons (pv 0) pa_nil)) (pa_cons (pe_cal c__law_kind hr (by rfl) (pa_cons (pv 1) pa_nil)) pa_nil))))
    (pss_cons (ps_if (pt_cmpR (op_eqD hr.units) (pv 2) (pe_lst (pa_cons pe_str (pa_cons pe_str pa_nil))) (nomark _)) (pss_one (ps_ret (pe_cal c__law_bounded hr (by rfl) (pa_cons (pe_op op_addA (pv 0) (pv 1)) pa_nil)))) pss_nil)
    (pss_cons (ps_if (pt_cmpR (op_eqD hr.units) (pv 2) (pe_lst (pa_cons pe_str (pa_cons pe_str pa_nil))) (nomark _)) (pss_one (ps_ret (pe_cal c__law_made hr (by rfl) (pa_cons (pe_op op_addA (pv 0) (pv 1)) pa_nil)))) pss_nil)
    (pss_cons (ps_if (pt_cmpR op_notIn_seq pe_str (pv 2) rfl) (pss_one (ps_ret (pe_tup (pa_cons pe_non (pa_cons pe_str pa_nil))))) pss_nil)
    (pss_cons (ps_set (i := 3) sc_L_sum.nd rfl (Or.inl rfl) (pe_cal c__law_text_of hr (by rfl) (pa_cons (pv 0) pa_nil)))
    (pss_cons (ps_set (i := 4) sc_L_sum.nd rfl (Or.inl rfl) (pe_cal c__law_text_of hr (by rfl) (pa_cons (pv 1) pa_nil)))
    (pss_cons (ps_if (PW.pt (pw_or (pt_cmpR op_isN (pv 3) pe_non (nomark _)) (pw_or1 (pt_cmpR op_isN (pv 4) pe_non (nomark _))))) (pss_one (ps_ret (pe_tup (pa_cons pe_non (pa_cons pe_str pa_nil))))) pss_nil)
    (pss_one (ps_ret (pe_cal c__law_joined hr (by rfl) (pa_cons (pe_op op_add_str (pv 3) (pv 4)) pa_nil))))))))))), ?_⟩
  refine kpairL rfl R1 rfl R2 fun t ht => ?_
  have s1 := same_new ht (.lst [.str d.kd.s, .str e.kd.s])
  refine if_tstN (pairL_eq .number .number rfl upd_same) (fun h H1 s2 => ?_) fun n1 H1 s2 => ?_
  · rw [Bool.and_eq_true] at h
    have h1 := of_decide_eq_true h.1
    have h2 := of_decide_eq_true h.2
    have sE := s1.trans s2
    cases R1 with
    | int i =>
      cases R2 with
      | int j => exact ⟨_, rfl, _, rfl, .inl ⟨_, _, rfl, rfl, G, i + j, rfl, hG.trans sE, q.same hG sE⟩⟩
      | _ => cases h2
    | _ => cases h1
  · refine if_tstN (pairL_eq .list .list rfl (s2 _ _ upd_same)) (fun h H2 s3 => ?_) fun n2 H2 s3 => ?_
    · rw [Bool.and_eq_true] at h
      have h1 := of_decide_eq_true h.1
      have h2 := of_decide_eq_true h.2
      have sE := (s1.trans s2).trans s3
      cases G1 with
      | @lst a vs ds ha r1 =>
        cases G2 with
        | @lst b us es hb r2 =>
          have l1 := lst_len b1
          have l2 := lst_len b2
          have wd1 := b1.wd
          have wd2 := b2.wd
          have dp1 := b1.dep
          have dp2 := b2.dep
          rw [Dat.dep] at dp1 dp2
          have ll1 := r1.length
          have ll2 := r2.length
          refine ⟨_, rfl, _, rfl, .inr (.inl ⟨a, b, vs, us, rfl, rfl, sE _ _ (hG _ _ ha), sE _ _ (hG _ _ hb), small5 (by omega), fun p hp => ?_⟩)⟩
          have gN := (hG.gr sE).new hp (.lst (vs ++ us))
          refine ⟨_, .ref p, .lst (ds ++ es), rfl, gN.i, .lst upd_same ((r1.mono (rds_of gN.g)).app (r2.mono (rds_of gN.g))), ⟨by rw [List.length_append]; omega, WDL_app wd1.2 wd2.2⟩, ?_, q.later gN⟩
          rw [Dat.dep, depL_app]
          omega
        | _ => cases h2
      | _ => cases h1
    · have sE := (s1.trans s2).trans s3
      have hk2 := s3 _ _ (s2 _ _ (upd_same (H := H) (a := t) (o := .lst [.str d.kd.s, .str e.kd.s])))
      have eq : addD d e = if d.kd = .text ∨ e.kd = .text then (match textD d, textD e with | some x, some y => boundT (x ++ y) | _, _ => .error "not a text") else .error "not to be added" := by
        cases d <;> cases e <;> first | rfl | (simp [Dat.kd] at n1; done) | (simp [Dat.kd] at n2; done)
      rw [eq] at q
      have em : decide (("text" : Str) ∈ [d.kd.s, e.kd.s]) = decide (d.kd = .text ∨ e.kd = .text) := by
        generalize d.kd = a
        generalize e.kd = b
        cases a <;> cases b <;> decide +kernel
      refine if_pureN (p := !decide (d.kd = .text ∨ e.kd = .text)) (fun Q q => ⟨_, rfl, t, [d.kd.s, e.kd.s].map V.str, rfl, .inl (.inl (.inl hk2)), rfl, flat_strs _, _, rfl, ?_⟩) (fun h => ?_) fun h => ?_
      · rw [if_pos rfl, inV_strs, em]
        exact q
      · have h : decide (d.kd = .text ∨ e.kd = .text) = false := by
          cases hq : decide (d.kd = .text ∨ e.kd = .text) with
          | false => rfl
          | true => rw [hq] at h; cases h
        rw [if_neg (of_decide_eq_false h)] at q
        exact q.bad rfl sE
      · have h : decide (d.kd = .text ∨ e.kd = .text) = true := by
          cases hq : decide (d.kd = .text ∨ e.kd = .text) with
          | true => rfl
          | false => rw [hq] at h; cases h
        rw [if_pos (of_decide_eq_true h)] at q
        refine setS ⟨_, rfl, v, d, rfl, R1.mono (rds_of sE), b1.wd, fun H3 s4 => setS ⟨_, rfl, u, e, rfl, R2.mono (rds_of (sE.trans s4)), b2.wd, fun H4 s5 => ?_⟩⟩
        have sF := (sE.trans s4).trans s5
        cases g1 : textD d with
        | none =>
          rw [g1] at q
          exact if_pureN (p := true || false) (PureT.or (fun Q q => ⟨_, rfl, rfl, _, rfl, q⟩) fun h => by cases h) (fun _ => q.bad rfl sF) fun h => by cases h
        | some x =>
          cases g2 : textD e with
          | none =>
            rw [g1, g2] at q
            exact if_pureN (p := false || true) (PureT.or (fun Q q => ⟨_, rfl, rfl, _, rfl, q⟩) fun _ Q q => ⟨_, rfl, rfl, _, rfl, q⟩) (fun _ => q.bad rfl sF) fun h => by cases h
          | some y =>
            rw [g1, g2] at q
            have l1 := text_len b1 g1
            have l2 := text_len b2 g2
            have la : (x ++ y).length = x.length + y.length := Str.length_append x y
            refine if_pureN (p := false || false) (PureT.or (fun Q q => ⟨_, rfl, rfl, _, rfl, q⟩) fun _ Q q => ⟨_, rfl, rfl, _, rfl, q⟩) (fun h => by cases h) fun _ => ?_
            exact ⟨_, rfl, _, rfl, x, y, rfl, rfl, small5 (by omega), G, x ++ y, rfl, hG.trans sF, by omega, q.same hG sF⟩
end
end Vk
set_option maxHeartbeats 4000000
/-! the law's own: operators, places, functions -/
namespace Vk
open PySem PySem.Spec PyProof.Rows L2
def spLSgn : Sp := fun vs H Q _ => ∃ s G v u d e, vs = [.str (Sg.s s), v, u] ∧ isOp s = true ∧ Same G H ∧ Rep G v d ∧ Rep G u e ∧ Bd d ∧ Bd e ∧ LOut G H Q (oper s d e)
def spLAt : Sp := fun vs H Q _ => ∃ G v p d e, vs = [v, p] ∧ Same G H ∧ Rep G v d ∧ Rep G p e ∧ d.WD ∧ LOut G H Q (atD d e)
def spLField : Sp := fun vs H Q _ => ∃ G v x d, vs = [v, .str x] ∧ Same G H ∧ Rep G v d ∧ x.length ≤ 5000 ∧ LOut G H Q (fieldD x d)
def spLCall : Sp := fun vs H Q _ => ∃ fn G A ws ds, vs = [.str (Fn.s fn), .ref A] ∧ H A = some (.lst ws) ∧ Same G H ∧ Reps G ws ds ∧ (∀ d ∈ ds, Bd d) ∧ ds.length = fn.ar ∧ LOut G H Q (fnD fn ds)
theorem Reps.nth {H : Hp} {vs : List V} {ds : List Dat} {v : V} {d : Dat} (f : Reps H vs ds) (i : Nat) (e : vs[i]? = some v) (e2 : ds[i]? = some d) : Rep H v d := by
  obtain ⟨d', h, r⟩ := f.get e
  rw [e2] at h
  cases h
  exact r
/-- value[place], where there is one -/
theorem at_ixR {K : PySem.W.Frag} {σ : L2.St} {G H : Hp} (hG : Same G H) {i j : Nat} {v p : V} {d e x : Dat} {Q : VK} (h1 : σ[i]? = some (some v)) (h2 : σ[j]? = some (some p)) (f : Rep G v d) (R : Rep G p e) (wd : d.WD) (g : getAt d e = some x) (q : ∀ u, Rep G u x → Q u H) :
    tOp (rIx K) (tVar i) (tVar j) σ H Q ∨ tDGet (tVar i) (tVar j) σ H Q := by
  cases f with
  | @rcd a kvs ks ds ha hk fs =>
    cases R with
    | str y =>
      have g : lookK ks ds y = some x := g
      rcases look_rep y hk fs with ⟨u, d, g1, g2, r, _⟩ | ⟨g1, g2⟩
      · rw [g] at g2
        cases g2
        exact .inr ⟨_, h1, _, h2, a, u, rfl, .inl ⟨kvs, .inr y, (rds_of hG).dic _ _ ha, rfl, g1.symm⟩, q u r⟩
      · rw [g] at g2
        cases g2
    | _ => cases g
  | @lst a vs ds ha fs =>
    cases R with
    | int n =>
      rw [getAt_l] at g
      by_cases h0 : 0 ≤ n
      · rw [if_pos h0] at g
        have hl : n.toNat < ds.length := (List.getElem?_eq_some_iff.mp g).1
        have hv : n.toNat < vs.length := by rw [fs.length]; exact hl
        have r := fs.nth n.toNat (List.getElem?_eq_getElem hv) g
        refine .inl ⟨_, h1, _, h2, .inl ⟨a, vs, n, _, rfl, rfl, .inl (.inl (hG _ _ ha)), ?_, q _ r⟩⟩
        have e : ((n.toNat : Nat) : Int) = n := Int.toNat_of_nonneg h0
        have := atI_nat (List.getElem?_eq_getElem hv)
        rw [e] at this
        exact this
      · rw [if_neg h0] at g
        cases g
    | _ => cases g
  | @str y =>
    cases R with
    | int n =>
      rw [getAt_s] at g
      by_cases h0 : 0 ≤ n
      · rw [if_pos h0] at g
        obtain ⟨c, hc, rfl⟩ := Option.map_eq_some_iff.mp g
        refine .inl ⟨_, h1, _, h2, .inr (.inr ⟨y, n, c, rfl, rfl, small5 wd, ?_, q _ (.str _)⟩)⟩
        have e : ((n.toNat : Nat) : Int) = n := Int.toNat_of_nonneg h0
        have := atI_nat hc
        rw [e] at this
        exact this
      · rw [if_neg h0] at g
        cases g
    | _ => cases g
  | _ => cases g
section
variable {w : World} {K : PySem.W.Frag} {mg : Str → Option Value} {base : Heap} {n k : Nat}
abbrev s_L_operate : Stmt := topS 84
theorem sc_L_operate : FnScope ["_law_sign", "_law_first", "_law_second", "_law_kinds"] ["_law_sign", "_law_first", "_law_second"] (defScope s_L_operate) := ⟨rfl, rfl, rfl, by decide +kernel, rfl, by decide +kernel, by decide +kernel⟩
theorem cal_L_operate (D : DefA K mg "_law_operate" s_L_operate) (z : Nm mg) (c__law_kind : Cal PP w K mg base CX0 1 "_law_kind" ["_law_value_here"] spKind) (c__law_sum : Cal PP w K mg base CX0 26 "_law_sum" ["_law_first", "_law_second"] (spLTwo addD)) (c__law_same : Cal PP w K mg base CX0 42 "_law_same" ["_law_first", "_law_second"] (spLSame 41))
    (c__law_bounded : Cal PP w K mg base CX0 1 "_law_bounded" ["_law_number_here"] spLBN) (c__law_quotient : Cal PP w K mg base CX0 1 "_law_quotient" ["_law_first", "_law_second"] spLQuot) : Cal PP w K mg base CX0 43 "_law_operate" ["_law_sign", "_law_first", "_law_second"] spLSgn := by
  have c__law_kind := c__law_kind.mono (show 1 ≤ 42 by decide)
  have c__law_sum := c__law_sum.mono (show 26 ≤ 42 by decide)
  have c__law_bounded := c__law_bounded.mono (show 1 ≤ 42 by decide)
  have c__law_quotient := c__law_quotient.mono (show 1 ≤ 42 by decide)
  refine cal_mk D sc_L_operate (fun _ _ _ _ _ _ us hl => match us, hl with | [_, _, _], _ => rfl) (fun vs H Q E h => ?_) (fun f cdv A outer s H vs Q E hr h => ?_)
  · obtain ⟨sg, G, v, u, d, e, rfl, _⟩ := h
    rfl
  obtain ⟨sg, G, v, u, d, e, rfl, hs, hG, G1, G2, b1, b2, q⟩ := h
  have R1 := G1.mono (rds_of hG)
  have R2 := G2.mono (rds_of hG)
  refine ⟨_, (pss_cons (ps_set (i := 3) sc_L_operate.nd rfl (Or.inl rfl) (pe_lst (pa_cons (pe_cal c__law_kind hr (by rfl) (pa_cons (pv 1) pa_nil)) (pa_cons (pe_cal c__law_kind hr (by rfl) (pa_cons (pv 2) pa_nil)) pa_nil))))
    (pss_cons (ps_if (pt_cmpR op_eq (pv 0) pe_str (nomark _)) (pss_one (ps_ret (pe_cal c__law_sum hr (by rfl) (pa_cons (pv 1) (pa_cons (pv 2) pa_nil))))) pss_nil)
    (pss_cons (ps_if (pt_cmpR op_eq (pv 0) pe_str (nomark _)) (pss_one (ps_ret (pe_tup (pa_cons (pe_cal c__law_same hr (by rfl) (pa_cons (pv 1) (pa_cons (pv 2) pa_nil))) (pa_cons pe_non pa_nil))))) pss_nil)
    (pss_cons (ps_if (pt_cmpR op_eq (pv 0) pe_str (nomark _)) (pss_one (ps_ret (pe_tup (pa_cons (pe_not (pe_cal c__law_same hr (by rfl) (pa_cons (pv 1) (pa_cons (pv 2) pa_nil)))) (pa_cons pe_non pa_nil))))) pss_nil)
    (pss_cons (ps_if (pt_cmpR op_in_seq (pv 0) (pe_tup (pa_cons pe_str (pa_cons pe_str (pa_cons pe_str pa_nil)))) rfl) (pss_cons (ps_if (pt_cmpR (op_neD hr.units) (pv 3) (pe_lst (pa_cons pe_str (pa_cons pe_str pa_nil))) (nomark _)) (pss_one (ps_ret (pe_tup (pa_cons pe_non (pa_cons pe_str pa_nil))))) pss_nil)
    (pss_cons (ps_if (pt_cmpR op_eq (pv 0) pe_str (nomark _)) (pss_one (ps_ret (pe_cal c__law_bounded hr (by rfl) (pa_cons (pe_op op_sub (pv 1) (pv 2)) pa_nil)))) pss_nil)
    (pss_cons (ps_if (pt_cmpR op_eq (pv 0) pe_str (nomark _)) (pss_one (ps_ret (pe_cal c__law_bounded hr (by rfl) (pa_cons (pe_op op_mulW (pv 1) (pv 2)) pa_nil)))) pss_nil)
    (pss_cons (ps_if (pt_cmpR op_eq (pv 2) pe_int (nomark _)) (pss_one (ps_ret (pe_tup (pa_cons pe_non (pa_cons pe_str pa_nil))))) pss_nil)
    (pss_one (ps_ret (pe_cal c__law_bounded hr (by rfl) (pa_cons (pe_cal c__law_quotient hr (by rfl) (pa_cons (pv 1) (pa_cons (pv 2) pa_nil))) pa_nil)))))))) pss_nil)
    (pss_cons (ps_if (PW.pt (pw_and (pt_cmpR (op_neD hr.units) (pv 3) (pe_lst (pa_cons pe_str (pa_cons pe_str pa_nil))) (nomark _)) (pw_and1 (pt_cmpR (op_neD hr.units) (pv 3) (pe_lst (pa_cons pe_str (pa_cons pe_str pa_nil))) (nomark _))))) (pss_one (ps_ret (pe_tup (pa_cons pe_non (pa_cons pe_str pa_nil))))) pss_nil)
    (pss_cons (ps_if (pt_cmpR op_eq (pv 0) pe_str (nomark _)) (pss_one (ps_ret (pe_tup (pa_cons (pe_cmpR op_ltA (pv 1) (pv 2) (nomark _)) (pa_cons pe_non pa_nil))))) pss_nil)
    (pss_cons (ps_if (pt_cmpR op_eq (pv 0) pe_str (nomark _)) (pss_one (ps_ret (pe_tup (pa_cons (pe_cmpR op_leA (pv 1) (pv 2) (nomark _)) (pa_cons pe_non pa_nil))))) pss_nil)
    (pss_cons (ps_if (pt_cmpR op_eq (pv 0) pe_str (nomark _)) (pss_one (ps_ret (pe_tup (pa_cons (pe_cmpR op_gtA (pv 1) (pv 2) (nomark _)) (pa_cons pe_non pa_nil))))) pss_nil)
    (pss_one (ps_ret (pe_tup (pa_cons (pe_cmpR op_geA (pv 1) (pv 2) (nomark _)) (pa_cons pe_non pa_nil)))))))))))))), ?_⟩
  refine kpairL rfl R1 rfl R2 fun t ht => ?_
  have s1 := same_new ht (.lst [.str d.kd.s, .str e.kd.s])
  have S1 := R1.mono (rds_of s1)
  have S2 := R2.mono (rds_of s1)
  have ms : msr d ≤ 41 := by
    have := msr_le d
    have := b1.dep
    omega
  refine ifsN .add rfl (fun h => ?_) fun n1 => ifsN .eq rfl (fun h => ?_) fun n2 => ifsN .ne rfl (fun h => ?_) fun n3 => if_tstN (tin3 "-" "*" "/" (val_var rfl)) (fun h H1 s2 => ?_) fun h H1 s2 => ?_
  · subst h
    exact ⟨_, rfl, _, rfl, G, v, u, d, e, rfl, hG.trans s1, G1, G2, b1, b2, q.same hG s1⟩
  · subst h
    exact ⟨_, rfl, _, rfl, v, u, d, e, rfl, S1, S2, b1.wd, b2.wd, ms, fun H' s' => q.put rfl (hG.gr (s1.trans s')) (.bl _)⟩
  · subst h
    exact ⟨_, rfl, _, rfl, v, u, d, e, rfl, S1, S2, b1.wd, b2.wd, ms, fun H' s' => ⟨_, rfl, q.put rfl (hG.gr (s1.trans s')) (.bl _)⟩⟩
  · have h : decide (sg.s ∈ [("-" : Str), "*", "/"]) = true := h
    rw [mem_calc] at h
    have e1 : oper sg d e = calcD sg d e := by cases sg <;> first | rfl | exact absurd h (by decide)
    rw [e1] at q
    have sE := s1.trans s2
    refine if_tstN (pairL_ne .number .number rfl (s2 _ _ upd_same)) (fun h2 H2 s3 => ?_) fun h2 H2 s3 => ?_
    · exact q.bad (by cases d <;> cases e <;> first | rfl | (simp [Dat.kd] at h2; done)) (sE.trans s3)
    · have sF := sE.trans s3
      cases R1 with
      | int i =>
        cases R2 with
        | int j =>
          have bi := b1.wd
          have bj := b2.wd
          rw [Dat.WD] at bi bj
          refine ifsN .sub rfl (fun h => ?_) fun n1 => ifsN .mul rfl (fun h => ?_) fun n2 => if_pureN (p := j == 0) (fun Q q => ⟨_, rfl, rfl, _, congrArg V.bl dec_int, q⟩) (fun h3 => ?_) fun h3 => ?_
          · subst h
            exact ⟨_, rfl, _, rfl, _, _, rfl, rfl, G, i - j, rfl, hG.trans sF, q.same hG sF⟩
          · subst h
            exact ⟨_, rfl, _, rfl, _, _, rfl, rfl, wide_mul (lt100 bi) (lt100 bj) (by decide) (by decide) (by decide), G, i * j, rfl, hG.trans sF, q.same hG sF⟩
          · have hj : j = 0 := by simpa using h3
            have e1 : calcD sg (.int i) (.int j) = if j = 0 then .error "division by 0" else boundN (quot i j) := by
              cases sg <;> first | rfl | exact absurd rfl n1 | exact absurd rfl n2
            exact q.bad (e1.trans (if_pos hj)) sF
          · have hj : ¬ j = 0 := by simpa using h3
            have e1 : calcD sg (.int i) (.int j) = if j = 0 then .error "division by 0" else boundN (quot i j) := by
              cases sg <;> first | rfl | exact absurd rfl n1 | exact absurd rfl n2
            rw [e1, if_neg hj] at q
            exact ⟨_, rfl, _, rfl, i, j, rfl, bj, hj, G, quot i j, rfl, hG.trans sF, q.same hG sF⟩
        | _ => simp [Dat.kd] at h2
      | _ => simp [Dat.kd] at h2
  · have h : decide (sg.s ∈ [("-" : Str), "*", "/"]) = false := h
    rw [mem_calc] at h
    have e1 : oper sg d e = cmpD sg d e := by cases sg <;> first | rfl | exact absurd h (by decide) | exact absurd hs (by decide) | exact absurd rfl n1 | exact absurd rfl n3 | exact absurd rfl n2
    rw [e1] at q
    have sE := s1.trans s2
    refine if_tstN ((pairL_ne .number .number rfl (s2 _ _ upd_same)).and fun _ H2 s3 => pairL_ne .text .text rfl (s3 _ _ (s2 _ _ upd_same))) (fun h H2 s3 => ?_) fun h H2 s3 => ?_
    · exact q.bad (by cases d <;> cases e <;> first | rfl | (simp [Dat.kd] at h; done)) (sE.trans s3)
    · have sF := sE.trans s3
      cases R1 with
      | int i =>
        cases R2 with
        | int j =>
          refine ifsN .lt rfl (fun h => ?_) fun n1 => ifsN .le rfl (fun h => ?_) fun n2 => ifsN .gt rfl (fun h => ?_) fun n3 => ?_
          · subst h
            exact ⟨_, rfl, _, rfl, .inl ⟨i, j, rfl, rfl, q.put rfl (hG.gr sF) (.bl _)⟩⟩
          · subst h
            exact ⟨_, rfl, _, rfl, .inl ⟨i, j, rfl, rfl, q.put rfl (hG.gr sF) (.bl _)⟩⟩
          · subst h
            exact ⟨_, rfl, _, rfl, .inl ⟨i, j, rfl, rfl, q.put rfl (hG.gr sF) (.bl _)⟩⟩
          · have e1 : cmpD sg (.int i) (.int j) = .ok (.bl (decide (j ≤ i))) := by
              cases sg <;> first | rfl | exact absurd rfl n1 | exact absurd rfl n2 | exact absurd rfl n3
            exact ⟨_, rfl, _, rfl, .inl ⟨i, j, rfl, rfl, q.put e1 (hG.gr sF) (.bl _)⟩⟩
        | _ => simp [Dat.kd] at h
      | str i =>
        cases R2 with
        | str j =>
          refine ifsN .lt rfl (fun h => ?_) fun n1 => ifsN .le rfl (fun h => ?_) fun n2 => ifsN .gt rfl (fun h => ?_) fun n3 => ?_
          · subst h
            exact ⟨_, rfl, _, rfl, .inr ⟨i, j, rfl, rfl, q.put rfl (hG.gr sF) (.bl _)⟩⟩
          · subst h
            exact ⟨_, rfl, _, rfl, .inr ⟨i, j, rfl, rfl, q.put rfl (hG.gr sF) (.bl _)⟩⟩
          · subst h
            exact ⟨_, rfl, _, rfl, .inr ⟨i, j, rfl, rfl, q.put rfl (hG.gr sF) (.bl _)⟩⟩
          · have e1 : cmpD sg (.str i) (.str j) = .ok (.bl (!decide (i.cps.toList < j.cps.toList))) := by
              cases sg <;> first | rfl | exact absurd rfl n1 | exact absurd rfl n2 | exact absurd rfl n3
            exact ⟨_, rfl, _, rfl, .inr ⟨i, j, rfl, rfl, q.put e1 (hG.gr sF) (.bl _)⟩⟩
        | _ => simp [Dat.kd] at h
      | _ => simp [Dat.kd] at h
abbrev s_L_at : Stmt := topS 85
theorem sc_L_at : FnScope ["_law_value_here", "_law_place", "_law_kinds"] ["_law_value_here", "_law_place"] (defScope s_L_at) := ⟨rfl, rfl, rfl, by decide +kernel, rfl, by decide +kernel, by decide +kernel⟩
theorem cal_L_at (D : DefA K mg "_law_at" s_L_at) (z : Nm mg) (c__law_kind : Cal PP w K mg base CX0 1 "_law_kind" ["_law_value_here"] spKind) : Cal PP w K mg base CX0 2 "_law_at" ["_law_value_here", "_law_place"] spLAt := by
  refine cal_mk D sc_L_at (fun _ _ _ _ _ _ us hl => match us, hl with | [_, _], _ => rfl) (fun vs H Q E h => ?_) (fun f cdv A outer s H vs Q E hr h => ?_)
  · obtain ⟨G, v, p, d, e, rfl, _⟩ := h
    rfl
  obtain ⟨G, v, p, d, e, rfl, hG, G1, G2, wd, q⟩ := h
  have R1 := G1.mono (rds_of hG)
  have R2 := G2.mono (rds_of hG)
  have hu := hu_of hr
  refine ⟨_, (pss_cons (ps_set (i := 2) sc_L_at.nd rfl (Or.inl rfl) (pe_lst (pa_cons (pe_cal c__law_kind hr (by rfl) (pa_cons (pv 0) pa_nil)) (pa_cons (pe_cal c__law_kind hr (by rfl) (pa_cons (pv 1) pa_nil)) pa_nil))))
    (pss_cons (ps_if (pt_cmpR (op_eqD hr.units) (pv 2) (pe_lst (pa_cons pe_str (pa_cons pe_str pa_nil))) (nomark _)) (pss_cons (ps_if (pt_cmp (pc_din hu (pv 1) (pv 0))) (pss_one (ps_ret (pe_tup (pa_cons (pe_or2 (pe_ix ix_seq (pv 0) (pv 1) (fun _ _ => rfl)) (pe_dget hu (pv 0) (pv 1) (fun _ _ => rfl))) (pa_cons pe_non pa_nil))))) pss_nil)
    (pss_one (ps_ret (pe_tup (pa_cons pe_non (pa_cons pe_str pa_nil)))))) pss_nil)
    (pss_cons (ps_if (PW.pt (pw_or (pt_cmpR (op_eqD hr.units) (pv 2) (pe_lst (pa_cons pe_str (pa_cons pe_str pa_nil))) (nomark _)) (pw_or1 (pt_cmpR (op_eqD hr.units) (pv 2) (pe_lst (pa_cons pe_str (pa_cons pe_str pa_nil))) (nomark _))))) (pss_cons (ps_if (pt_chain op_le op_lt pe_int (pv 1) (pe_callB (call_lenK (K := K) rfl) (by rfl) z.len (by decide +kernel) (pa_cons (pv 0) pa_nil))) (pss_one (ps_ret (pe_tup (pa_cons (pe_or2 (pe_ix ix_seq (pv 0) (pv 1) (fun _ _ => rfl)) (pe_dget hu (pv 0) (pv 1) (fun _ _ => rfl))) (pa_cons pe_non pa_nil))))) pss_nil)
    (pss_one (ps_ret (pe_tup (pa_cons pe_non (pa_cons pe_str pa_nil)))))) pss_nil)
    (pss_one (ps_ret (pe_tup (pa_cons pe_non (pa_cons pe_str pa_nil)))))))), ?_⟩
  refine kpairL rfl R1 rfl R2 fun t ht => ?_
  have s1 := same_new ht (.lst [.str d.kd.s, .str e.kd.s])
  refine if_tstN (pairL_eq .record .text rfl upd_same) (fun h H1 s2 => ?_) fun n1 H1 s2 => ?_
  · rw [Bool.and_eq_true] at h
    have h1 := of_decide_eq_true h.1
    have h2 := of_decide_eq_true h.2
    have sE := s1.trans s2
    have pl : placed d e = true := by rw [placed_kd, h.1, h.2]; rfl
    cases R1 with
    | @rcd a kvs ks ds ha hk r =>
      cases R2 with
      | str x =>
        have eg : getAt (.rcd ks ds) (.str x) = lookK ks ds x := rfl
        rcases look_rep x hk r with ⟨v, d, g1, g2, _⟩ | ⟨g1, g2⟩
        · refine if_pureN (p := true) (fun Q q => ⟨_, rfl, _, rfl, a, _, rfl, .inl ⟨kvs, .inr x, (rds_of sE).dic _ _ ha, rfl, rfl⟩, by rw [g1]; exact ⟨_, rfl, q⟩⟩) (fun _ => ?_) fun h => by cases h
          exact at_ixR (hG.trans sE) rfl rfl G1 G2 wd (eg.trans g2) fun u r => q.put (by unfold atD; rw [if_pos pl, eg, g2]) (hG.gr sE) r
        · refine if_pureN (p := false) (fun Q q => ⟨_, rfl, _, rfl, a, _, rfl, .inl ⟨kvs, .inr x, (rds_of sE).dic _ _ ha, rfl, rfl⟩, by rw [g1]; exact ⟨_, rfl, q⟩⟩) (fun h => by cases h) fun _ => ?_
          exact q.bad (by unfold atD; rw [if_pos pl, eg, g2]) sE
      | _ => cases h2
    | _ => cases h1
  · refine if_tstN ((pairL_eq .list .number rfl (s2 _ _ upd_same)).or fun _ H2 s3 => pairL_eq .text .number rfl (s3 _ _ (s2 _ _ upd_same))) (fun h H2 s3 => ?_) fun n2 H2 s3 => ?_
    · have sE := (s1.trans s2).trans s3
      have pl : placed d e = true := by rw [placed_kd, h, Bool.or_true]
      have ch : ∀ (i : Int) (n : Nat), e = .int i → LenV K v H2 n → ∀ Q : Bool → Hp → Prop, Q (decide (0 ≤ i) && decide (i < (n : Nat))) H2 → tTest (tChain (rI0 fun i j => .bl (decide (i ≤ j))) (rI0 fun i j => .bl (decide (i < j))) (tC (.int 0)) (tVar 1) (tCB (fun xs H Q => (∃ x n, xs = [x] ∧ LenV K x H n ∧ Q (.int n) H) ∨ ∃ a kvs, xs = [V.ref a] ∧ Rd H a (.dK kvs) ∧ Q (.int kvs.length) H) (tCons (tVar 0) tNil))) [some v, some p, some (.ref t)] H2 Q := fun i n he hn G g0 => by
        subst he
        obtain rfl : p = .int i := by cases R2; rfl
        refine ⟨_, rfl, _, _, rfl, rfl, _, rfl, ite2 (fun h0 => ?_) fun h0 => ?_⟩
        · rw [h0, Bool.true_and] at g0
          exact ⟨_, rfl, .inl ⟨_, n, rfl, hn, _, _, rfl, rfl, _, rfl, g0⟩⟩
        · rw [Bool.not_eq_true] at h0
          rw [h0, Bool.false_and] at g0
          exact ⟨_, rfl, g0⟩
      have he : ∃ i, e = .int i := by
        cases d <;> cases e <;> first | exact ⟨_, rfl⟩ | (simp [Dat.kd] at h; done)
      obtain ⟨i, he⟩ := he
      have hn : ∃ n : Nat, LenV K v H2 n ∧ (getAt d e).isSome = (decide (0 ≤ i) && decide (i < (n : Nat))) := by
        subst he
        cases R1 with
        | @lst a us ds ha r => exact ⟨us.length, .inl ⟨us, .inl (.inl (sE _ _ ha)), rfl⟩, by rw [getAt_lst, r.length]⟩
        | @str x => exact ⟨x.length, ⟨small5 wd, rfl⟩, getAt_str⟩
        | _ => simp [Dat.kd] at h
      obtain ⟨n, hn, ei⟩ := hn
      refine if_pureN (p := (getAt d e).isSome) (fun Q q => ch i n he hn Q (by rw [← ei]; exact q)) (fun h5 => ?_) fun h5 => ?_
      · obtain ⟨x, g⟩ := Option.isSome_iff_exists.mp h5
        exact at_ixR (hG.trans sE) rfl rfl G1 G2 wd g fun u r => q.put (by unfold atD; rw [if_pos pl, g]) (hG.gr sE) r
      · have g : getAt d e = none := by
          cases g : getAt d e with
          | none => rfl
          | some x => rw [g] at h5; cases h5
        exact q.bad (by unfold atD; rw [if_pos pl, g]) sE
    · have pl : placed d e = false := by rw [placed_kd, n1, n2]; rfl
      exact q.bad (by unfold atD; rw [if_neg (by rw [pl]; exact Bool.false_ne_true)]) ((s1.trans s2).trans s3)
abbrev s_L_field : Stmt := topS 86
theorem sc_L_field : FnScope ["_law_value_here", "_law_name"] ["_law_value_here", "_law_name"] (defScope s_L_field) := ⟨rfl, rfl, rfl, by decide +kernel, rfl, by decide +kernel, by decide +kernel⟩
theorem cal_L_field (D : DefA K mg "_law_field" s_L_field) (z : Nm mg) (c__law_kind : Cal PP w K mg base CX0 1 "_law_kind" ["_law_value_here"] spKind) : Cal PP w K mg base CX0 2 "_law_field" ["_law_value_here", "_law_name"] spLField := by
  refine cal_mk D sc_L_field (fun _ _ _ _ _ _ us hl => match us, hl with | [_, _], _ => rfl) (fun vs H Q E h => ?_) (fun f cdv A outer s H vs Q E hr h => ?_)
  · obtain ⟨G, v, x, d, rfl, _⟩ := h
    rfl
  obtain ⟨G, v, x, d, rfl, hG, R0, lx, q⟩ := h
  have R := R0.mono (rds_of hG)
  have hu := hu_of hr
  refine ⟨_, (pss_cons (ps_if (pt_cmpR op_ne (pe_cal c__law_kind hr (by rfl) (pa_cons (pv 0) pa_nil)) pe_str (nomark _)) (pss_one (ps_ret (pe_tup (pa_cons pe_non (pa_cons pe_str pa_nil))))) pss_nil)
    (pss_cons (ps_if (pt_cmp (pc_dnotin hu (pv 1) (pv 0))) (pss_one (ps_ret (pe_tup (pa_cons pe_non (pa_cons (pe_op op_add_str pe_str (pv 1)) pa_nil))))) pss_nil)
    (pss_one (ps_ret (pe_tup (pa_cons (pe_dget hu (pv 0) (pv 1) (fun _ _ => rfl)) (pa_cons pe_non pa_nil))))))), ?_⟩
  refine if_pureN (p := !decide (d.kd = .record)) (fun Q q => ⟨_, rfl, v, d, rfl, R, rfl, _, congrArg (fun b => V.bl (!b)) (kd_dec d.kd .record), q⟩) (fun h => ?_) fun h => ?_
  · exact q.bad (by cases d <;> first | rfl | (simp [Dat.kd] at h; done)) (.refl H)
  · cases R0 with
    | @rcd a kvs ks ds ha hk r =>
      have ha := (rds_of hG).dic _ _ ha
      rcases look_rep x hk r with ⟨v, d, g1, g2, r, _⟩ | ⟨g1, g2⟩
      · refine if_pureN (p := false) (fun Q q => ⟨_, rfl, _, rfl, a, _, rfl, .inl ⟨kvs, .inr x, ha, rfl, rfl⟩, by rw [g1]; exact ⟨_, rfl, q⟩⟩) (fun h => by cases h) fun h => ?_
        exact ⟨_, rfl, _, rfl, a, v, rfl, .inl ⟨kvs, .inr x, ha, rfl, g1.symm⟩, q.put (by rw [fieldD_r, g2]) (hG.gr (.refl H)) r⟩
      · refine if_pureN (p := true) (fun Q q => ⟨_, rfl, _, rfl, a, _, rfl, .inl ⟨kvs, .inr x, ha, rfl, rfl⟩, by rw [g1]; exact ⟨_, rfl, q⟩⟩) (fun h => ?_) fun h => by cases h
        have e : fieldD x (.rcd ks ds) = .error (("no field " : Str) ++ x) := by rw [fieldD_r, g2]
        refine ⟨_, rfl, _, _, rfl, rfl, ?_, by show 2 ≤ sizeLine; decide, fun p hp => q.2 _ e p _ (same_new hp _) upd_same⟩
        show 9 + x.length ≤ sizeLine
        exact Nat.le_trans (Nat.add_le_add_left lx 9) (by decide)
    | _ => simp [Dat.kd] at h
end
end Vk
set_option maxHeartbeats 4000000
/-! the law's own: functions -/
namespace Vk
open PySem PySem.Spec PyProof.Rows L2
theorem LOut.pass {G H G' H' : Hp} {Q : VK} {r : Rs} (h : LOut G H Q r) {d : Dat} (e : r = .ok d) {v : V} {p : Addr} (g : Gr G H G' H') (hp : H' p = some (.tup [v, .non])) (R : Rep G' v d) : Q (.ref p) H' := h.1 d e v p G' H' g hp R
section
variable {w : World} {K : PySem.W.Frag} {mg : Str → Option Value} {base : Heap} {n k : Nat}
abbrev s_L_call : Stmt := topS 87
theorem sc_L_call : FnScope ["_law_name", "_law_arguments", "_law_first", "_law_kind_here", "_law_found"] ["_law_name", "_law_arguments"] (defScope s_L_call) := ⟨rfl, rfl, rfl, by decide +kernel, rfl, by decide +kernel, by decide +kernel⟩
theorem cal_L_call (D : DefA K mg "_law_call" s_L_call) (z : Nm mg) (c__law_kind : Cal PP w K mg base CX0 1 "_law_kind" ["_law_value_here"] spKind) (c__law_text_of : Cal PP w K mg base CX0 2 "_law_text_of" ["_law_value_here"] (fun vs H Q E => ∃ v d, vs = [v] ∧ Rep H v d ∧ d.WD ∧ ∀ H', Same H H' → Q (ofO (textD d)) H'))
    (c__law_at : Cal PP w K mg base CX0 2 "_law_at" ["_law_value_here", "_law_place"] spLAt) (c__law_made : Cal PP w K mg base CX0 25 "_law_made" ["_law_value_here"] spLMade) : Cal PP w K mg base CX0 26 "_law_call" ["_law_name", "_law_arguments"] spLCall := by
  have c__law_kind := c__law_kind.mono (show 1 ≤ 25 by decide)
  have c__law_text_of := c__law_text_of.mono (show 2 ≤ 25 by decide)
  have c__law_at := c__law_at.mono (show 2 ≤ 25 by decide)
  refine cal_mk D sc_L_call (fun _ _ _ _ _ _ us hl => match us, hl with | [_, _], _ => rfl) (fun vs H Q E h => ?_) (fun f cdv A outer s H vs Q E hr h => ?_)
  · obtain ⟨fn, G, A, ws, ds, rfl, _⟩ := h
    rfl
  obtain ⟨fn, G, A, ws, ds, rfl, hA, hG, f0, bs, ln, q⟩ := h
  have f := f0.mono (rds_of hG)
  refine ⟨_, (pss_cons (ps_set (i := 2) sc_L_call.nd rfl (Or.inl rfl) (pe_ix ix_list (pv 1) pe_int (fun _ _ => rfl)))
    (pss_cons (ps_set (i := 3) sc_L_call.nd rfl (Or.inl rfl) (pe_cal c__law_kind hr (by rfl) (pa_cons (pv 2) pa_nil)))
    (pss_cons (ps_if (pt_cmpR op_eq (pv 0) pe_str (nomark _)) (pss_cons (ps_if (pt_cmpR op_notIn_seq (pv 3) (pe_tup (pa_cons pe_str (pa_cons pe_str (pa_cons pe_str pa_nil)))) rfl) (pss_one (ps_ret (pe_tup (pa_cons pe_non (pa_cons pe_str pa_nil))))) pss_nil)
    (pss_one (ps_ret (pe_tup (pa_cons (pe_callB (call_lenK (K := K) rfl) (by rfl) z.len (by decide +kernel) (pa_cons (pv 2) pa_nil)) (pa_cons pe_non pa_nil)))))) pss_nil)
    (pss_cons (ps_if (pt_cmpR op_eq (pv 0) pe_str (nomark _)) (pss_cons (ps_if (pt_cmpR op_isN (pe_cal c__law_text_of hr (by rfl) (pa_cons (pv 2) pa_nil)) pe_non (nomark _)) (pss_one (ps_ret (pe_tup (pa_cons pe_non (pa_cons pe_str pa_nil))))) pss_nil)
    (pss_one (ps_ret (pe_tup (pa_cons (pe_cal c__law_text_of hr (by rfl) (pa_cons (pv 2) pa_nil)) (pa_cons pe_non pa_nil)))))) pss_nil)
    (pss_cons (ps_if (pt_cmpR op_eq (pv 0) pe_str (nomark _)) (pss_cons (ps_set (i := 4) sc_L_call.nd rfl (Or.inl rfl) (pe_cal c__law_at hr (by rfl) (pa_cons (pv 2) (pa_cons (pe_ix ix_list (pv 1) pe_int (fun _ _ => rfl)) pa_nil))))
    (pss_cons (ps_if (PW.pt (pw_or (pt_cmpR op_isN (pv 2) pe_non (nomark _)) (pw_or1 (pt_cmpR op_eq (pe_ix ix_tup (pv 4) pe_int (fun _ _ => rfl)) pe_str (nomark _))))) (pss_one (ps_ret (pe_tup (pa_cons (pe_ix ix_list (pv 1) pe_int (fun _ _ => rfl)) (pa_cons pe_non pa_nil))))) pss_nil)
    (pss_one (ps_ret (pv 4))))) pss_nil)
    (pss_cons (ps_if (pt_cmpR op_eq (pv 0) pe_str (nomark _)) (pss_cons (ps_if (pt_cmpR op_ne (pv 3) pe_str (nomark _)) (pss_one (ps_ret (pe_tup (pa_cons pe_non (pa_cons pe_str pa_nil))))) pss_nil)
    (pss_one (ps_ret (pe_cal c__law_made hr (by rfl) (pa_cons (pe_callB (call_sortedD rfl) (by rfl) z.sorted (by decide +kernel) (pa_cons (pv 2) pa_nil)) pa_nil))))) pss_nil)
    (pss_cons (ps_if (PW.pt (pw_or (pt_cmpR op_ne (pv 3) pe_str (nomark _)) (pw_or1 (pt_cmpR op_ne (pe_cal c__law_kind hr (by rfl) (pa_cons (pe_ix ix_list (pv 1) pe_int (fun _ _ => rfl)) pa_nil)) pe_str (nomark _))))) (pss_one (ps_ret (pe_tup (pa_cons pe_non (pa_cons pe_str pa_nil))))) pss_nil)
    (pss_one (ps_ret (pe_tup (pa_cons (pe_ix ix_list (pe_lst (pa_cons (pe_callB (call_min2 rfl) (by rfl) z.min (by decide +kernel) (pa_cons (pv 2) (pa_cons (pe_ix ix_list (pv 1) pe_int (fun _ _ => rfl)) pa_nil))) (pa_cons (pe_callB (call_maxA rfl) (by rfl) z.max (by decide +kernel) (pa_cons (pv 2) (pa_cons (pe_ix ix_list (pv 1) pe_int (fun _ _ => rfl)) pa_nil))) pa_nil))) (pe_callTy call_int1 (by rfl) z.int (by decide +kernel) (pa_cons (pe_cmpR op_eq (pv 0) pe_str (nomark _)) pa_nil)) (fun _ _ => rfl)) (pa_cons pe_non pa_nil)))))))))))), ?_⟩
  cases fn with
  | length =>
    match ds, ln with
    | [d], _ =>
    match ws, f.length with
    | [v], _ =>
    have R := f.nth 0 rfl rfl
    have bd := bs d List.mem_cons_self
    refine setS (at_list 0 rfl hA rfl (kset rfl R (ifvT (val_var rfl) (by decide +kernel) (if_tstN (tin3 "text" "list" "record" (val_var rfl)) (fun h H1 s1 => ?_) fun h H1 s1 => ?_))))
    · have h : (!decide (d.kd.s ∈ [("text" : Str), "list", "record"])) = true := h
      rw [mem3] at h
      exact q.bad (by cases d <;> first | rfl | (simp [Dat.kd] at h; done)) s1
    · have h : (!decide (d.kd.s ∈ [("text" : Str), "list", "record"])) = false := h
      rw [mem3] at h
      cases R with
      | str x => exact ⟨_, rfl, .inl ⟨_, x.length, rfl, ⟨small5 bd.wd, rfl⟩, q.put rfl (hG.gr s1) (.int _)⟩⟩
      | @lst a us ds ha r =>
        refine ⟨_, rfl, .inl ⟨_, us.length, rfl, .inl ⟨us, .inl (.inl (s1 _ _ ha)), rfl⟩, ?_⟩⟩
        rw [r.length]
        exact q.put rfl (hG.gr s1) (.int _)
      | @rcd a kvs ks ds ha hk r =>
        refine ⟨_, rfl, .inr ⟨_, kvs, rfl, (rds_of s1).dic _ _ ha, ?_⟩⟩
        rw [keys_len hk]
        exact q.put rfl (hG.gr s1) (.int _)
      | _ => simp [Dat.kd] at h
  | text =>
    match ds, ln with
    | [d], _ =>
    match ws, f.length with
    | [v], _ =>
    have R := f.nth 0 rfl rfl
    have bd := bs d List.mem_cons_self
    have e : fnD .text [d] = match textD d with | some x => .ok (.str x) | none => .error "not a text" := rfl
    rw [e] at q
    refine setS (at_list 0 rfl hA rfl (kset rfl R (ifvF (val_var rfl) (by decide +kernel) (ifvT (val_var rfl) (by decide +kernel) ?_))))
    cases g : textD d with
    | none =>
      rw [g] at q
      exact if_tstN (p := true) (fun Q q => ⟨_, rfl, v, d, rfl, R, bd.wd, fun H' s => by rw [g]; exact ⟨rfl, _, rfl, q _ s⟩⟩) (fun _ H1 s1 => q.bad rfl s1) fun h => by cases h
    | some x =>
      rw [g] at q
      exact if_tstN (p := false) (fun Q q => ⟨_, rfl, v, d, rfl, R, bd.wd, fun H' s => by rw [g]; exact ⟨rfl, _, rfl, q _ s⟩⟩) (fun h => by cases h) fun _ H1 s1 => ⟨_, rfl, v, d, rfl, R.mono (rds_of s1), bd.wd, fun H' s => by rw [g]; exact q.put rfl (hG.gr (s1.trans s)) (.str x)⟩
  | get =>
    match ds, ln with
    | [d, e, o], _ =>
    match ws, f.length with
    | [v, p, u], _ =>
    have R1 := f.nth 0 rfl rfl
    have R2 := f.nth 1 rfl rfl
    have R3 := f.nth 2 rfl rfl
    have bd := bs d List.mem_cons_self
    have eq : fnD .get [d, e, o] = getD' d e o := rfl
    rw [eq] at q
    unfold getD' at q
    have n := R1.isN
    refine setS (at_list 0 rfl hA rfl (kset rfl R1 (ifvF (val_var rfl) (by decide +kernel) (ifvF (val_var rfl) (by decide +kernel) (ifvT (val_var rfl) (by decide +kernel) ?_)))))
    refine setS ⟨_, rfl, at_list 1 rfl hA rfl ⟨G, v, p, d, e, rfl, hG, f0.nth 0 rfl rfl, f0.nth 1 rfl rfl, bd.wd, fun d' ed v' t G' H' s ht Rt => ?_, fun m em t H' s ht => ?_⟩⟩
    · have pl : placed d e = true := by
        cases hp : placed d e with
        | true => rfl
        | false => unfold atD at ed; rw [hp, if_neg Bool.false_ne_true] at ed; cases ed
      have hn : ¬ d.kd = .null := fun z => by
        rw [placed_kd, z] at pl
        cases pl
      have nn : ∀ s : Str, decide (v' = V.str s) = false ∨ True := fun _ => .inr trivial
      refine if_pureN (p := false || false) (PureT.or (fun Q q => ⟨_, rfl, rfl, _, rfl, by rw [n, decide_eq_false hn]; exact q⟩) fun _ Q q => at_tup 1 rfl ht rfl ⟨rfl, false, congrArg V.bl (decide_eq_false fun z => by cases z), q⟩) (fun h => by cases h) fun _ => ⟨_, rfl, ?_⟩
      unfold atD at ed
      rw [if_pos pl] at ed
      rw [if_neg hn, if_pos pl] at q
      cases g : getAt d e with
      | none => rw [g] at ed; cases ed
      | some x =>
        rw [g] at ed q
        cases ed
        exact q.pass rfl s ht Rt
    · by_cases hn : d.kd = .null
      · rw [if_pos hn] at q
        refine if_pureN (p := true || false) (PureT.or (fun Q q => ⟨_, rfl, rfl, _, rfl, by rw [n, decide_eq_true hn]; exact q⟩) fun h => by cases h) (fun _ => at_list 2 rfl (s _ _ hA) rfl (q.put rfl (hG.gr s) (f0.nth 2 rfl rfl))) fun h => by cases h
      · rw [if_neg hn] at q
        unfold atD at em
        by_cases pl : placed d e = true
        · rw [if_pos pl] at em q
          cases g : getAt d e with
          | some x => rw [g] at em; cases em
          | none =>
            rw [g] at em q
            cases em
            exact if_pureN (p := false || true) (PureT.or (fun Q q => ⟨_, rfl, rfl, _, rfl, by rw [n, decide_eq_false hn]; exact q⟩) fun _ Q q => at_tup 1 rfl ht rfl ⟨rfl, true, congrArg V.bl (decide_eq_true rfl), q⟩) (fun _ => at_list 2 rfl (s _ _ hA) rfl (q.put rfl (hG.gr s) (f0.nth 2 rfl rfl))) fun h => by cases h
        · rw [if_neg pl] at em q
          cases em
          exact if_pureN (p := false || false) (PureT.or (fun Q q => ⟨_, rfl, rfl, _, rfl, by rw [n, decide_eq_false hn]; exact q⟩) fun _ Q q => at_tup 1 rfl ht rfl ⟨rfl, false, congrArg V.bl (by decide +kernel), q⟩) (fun h => by cases h) fun _ => ⟨_, rfl, q.2 _ rfl t H' s ht⟩
  | keys =>
    match ds, ln with
    | [d], _ =>
    match ws, f.length with
    | [v], _ =>
    have R := f.nth 0 rfl rfl
    have bd := bs d List.mem_cons_self
    refine setS (at_list 0 rfl hA rfl (kset rfl R (ifvF (val_var rfl) (by decide +kernel) (ifvF (val_var rfl) (by decide +kernel) (ifvF (val_var rfl) (by decide +kernel) (ifvT (val_var rfl) (by decide +kernel) (if_pureN (p := !decide (d.kd = .record)) (fun Q q => ⟨_, rfl, rfl, _, congrArg (fun b => V.bl (!b)) (kd_dec d.kd .record), q⟩) (fun h => ?_) fun h => ?_)))))))
    · exact q.bad (by cases d <;> first | rfl | (simp [Dat.kd] at h; done)) (.refl H)
    · cases R with
      | @rcd a kvs ks ds ha hk r =>
        have e : fnD .keys [Dat.rcd ks ds] = made (.lst ((srt ks).map Dat.str)) := rfl
        rw [e] at q
        have wd1 := bd.wd
        refine ⟨_, rfl, a, kvs, ks, rfl, ha, hk, Nat.lt_of_le_of_lt wd1.2.2.1 (by decide), fun ys p hp hs hpn => ?_⟩
        rw [srt_eq hp hs] at q
        have ly : ys.length ≤ 5000 := by
          have := wd1.2.2.1
          rw [hp.length_eq]
          omega
        have s1 := same_new hpn (.lst (ys.map V.str))
        have gN := (hG.gr (.refl H)).new hpn (.lst (ys.map V.str))
        refine ⟨_, .ref p, .lst (ys.map Dat.str), rfl, gN.i, .lst upd_same (Owns_strs _ ys).rep, ⟨by rw [List.length_map]; exact ly, WDL_strs fun y hy => (wd1.2.2.2.1 y (hp.mem_iff.mp hy)).1⟩, ?_, q.later gN⟩
        rw [Dat.dep]
        exact Nat.le_trans (Nat.succ_le_succ (depL_strs ys)) (by decide)
      | _ => simp [Dat.kd] at h
  | min =>
    match ds, ln with
    | [d, e], _ =>
    match ws, f.length with
    | [v, u], _ =>
    have R1 := f.nth 0 rfl rfl
    have R2 := f.nth 1 rfl rfl
    refine setS (at_list 0 rfl hA rfl (kset rfl R1 (ifvF (val_var rfl) (by decide +kernel) (ifvF (val_var rfl) (by decide +kernel) (ifvF (val_var rfl) (by decide +kernel) (ifvF (val_var rfl) (by decide +kernel) ?_))))))
    refine if_pureN (p := !decide (d.kd = .number) || !decide (e.kd = .number)) (PureT.or (fun Q q => ⟨_, rfl, rfl, _, congrArg (fun b => V.bl (!b)) (kd_dec d.kd .number), q⟩) fun _ Q q => at_list 1 rfl hA rfl ⟨u, e, rfl, R2, rfl, _, congrArg (fun b => V.bl (!b)) (kd_dec e.kd .number), q⟩) (fun h => ?_) fun h => ?_
    · exact q.bad (by cases d <;> cases e <;> first | rfl | (simp [Dat.kd] at h; done)) (.refl H)
    · cases R1 with
      | int i =>
        cases R2 with
        | int j =>
          refine ⟨_, rfl, at_list 1 rfl hA rfl ⟨i, j, rfl, _, rfl, at_list 1 rfl hA rfl (.inl ⟨i, j, rfl, by show 2 ≤ sizeLine; decide, fun t ht => ⟨_, rfl, rfl, .inr ⟨_, rfl, ?_⟩⟩⟩)⟩⟩
          have e1 : decide (V.str (Fn.s .min) = V.str "max") = false := by decide +kernel
          rw [e1]
          exact ⟨t, _, 0, _, rfl, rfl, .inl (.inl upd_same), rfl, q.put rfl (hG.gr (same_new ht _)) (.int _)⟩
        | _ => simp [Dat.kd] at h
      | _ => simp [Dat.kd] at h
  | max =>
    match ds, ln with
    | [d, e], _ =>
    match ws, f.length with
    | [v, u], _ =>
    have R1 := f.nth 0 rfl rfl
    have R2 := f.nth 1 rfl rfl
    refine setS (at_list 0 rfl hA rfl (kset rfl R1 (ifvF (val_var rfl) (by decide +kernel) (ifvF (val_var rfl) (by decide +kernel) (ifvF (val_var rfl) (by decide +kernel) (ifvF (val_var rfl) (by decide +kernel) ?_))))))
    refine if_pureN (p := !decide (d.kd = .number) || !decide (e.kd = .number)) (PureT.or (fun Q q => ⟨_, rfl, rfl, _, congrArg (fun b => V.bl (!b)) (kd_dec d.kd .number), q⟩) fun _ Q q => at_list 1 rfl hA rfl ⟨u, e, rfl, R2, rfl, _, congrArg (fun b => V.bl (!b)) (kd_dec e.kd .number), q⟩) (fun h => ?_) fun h => ?_
    · exact q.bad (by cases d <;> cases e <;> first | rfl | (simp [Dat.kd] at h; done)) (.refl H)
    · cases R1 with
      | int i =>
        cases R2 with
        | int j =>
          refine ⟨_, rfl, at_list 1 rfl hA rfl ⟨i, j, rfl, _, rfl, at_list 1 rfl hA rfl (.inl ⟨i, j, rfl, by show 2 ≤ sizeLine; decide, fun t ht => ⟨_, rfl, rfl, .inr ⟨_, rfl, ?_⟩⟩⟩)⟩⟩
          have e1 : decide (V.str (Fn.s .max) = V.str "max") = true := by decide +kernel
          rw [e1]
          exact ⟨t, _, 1, _, rfl, rfl, .inl (.inl upd_same), rfl, q.put rfl (hG.gr (same_new ht _)) (.int _)⟩
        | _ => simp [Dat.kd] at h
      | _ => simp [Dat.kd] at h
end
end Vk
set_option maxHeartbeats 4000000
/-! the law's own evaluator -/
namespace Vk
open PySem PySem.Spec PyProof.Rows L2
def spLEvP (p : Ex → Prop) (n : Nat) : Sp := fun vs H Q _ => ∃ G v a o x ks ds, vs = [v, .ref a, .int o] ∧ Same G H ∧ ERep G v x ∧ p x ∧ x.ok ks ∧ x.lvl ≤ n ∧ EvIn G a ks ds o n ∧ LOut G H Q (ev o x ks ds)
abbrev spLEv (n : Nat) : Sp := spLEvP (fun _ => True) n
def spLBool : Sp := fun vs H Q _ => ∃ t, vs = [.ref t] ∧ ((∃ v d, H t = some (.tup [v, .non]) ∧ Rep H v d ∧ (d.kd = .boolean → Q (.ref t) H) ∧ (d.kd ≠ .boolean → ∀ p H', Same H H' → H' p = some (.tup [.non, .str "not true or false"]) → Q (.ref p) H')) ∨
  ∃ m, H t = some (.tup [.non, .str m]) ∧ Q (.ref t) H)
def spLAll (n : Nat) : Sp := fun vs H Q _ => ∃ G l us a o xs ks ds, vs = [.ref l, .ref a, .int o] ∧ Same G H ∧ H l = some (.lst us) ∧ EReps G us xs ∧ xs.ok ks ∧ xs.lvl ≤ n ∧ xs.len ≤ 1000 ∧ EvIn G a ks ds o n ∧
  (∀ rs, evs o xs ks ds = .ok rs → ∀ p L ws G' H', Gr G H G' H' → H' p = some (.tup [.ref L, .non]) → H' L = some (.lst ws) → Reps G' ws rs → G' L = none → H L = none → Q (.ref p) H') ∧ ∀ m, evs o xs ks ds = .error m → ∀ p H', Same H H' → H' p = some (.tup [.non, .str m]) → Q (.ref p) H'
section
variable {K : PySem.W.Frag} {C : Addr} {σ : L2.St} {G H : Hp} {n : Nat} {Q : VK} {E : XK} {v : V} {x : Ex} {a : Addr} {o : Int} {ks : List Str} {ds : List Dat}
theorem lev_call (hG : Same G H) (R : ERep G v x) (ok : x.ok ks) (lv : x.lvl ≤ n) (I : EvIn G a ks ds o n) (q : ∀ d, ev o x ks ds = .ok d → Bd d → ∀ u p G' H', Gr G H G' H' → H' p = some (.tup [u, .non]) → Rep G' u d → Q (.ref p) H')
    (e : ∀ m, ev o x ks ds = .error m → ∀ p H', Same H H' → H' p = some (.tup [.non, .str m]) → Q (.ref p) H') : spLEv n [v, .ref a, .int o] H Q E :=
  ⟨G, v, a, o, x, ks, ds, rfl, hG, R, trivial, ok, lv, I, fun d h => q d h (ev_bd I.ob x ok I.ok h), e⟩
theorem sub_lev {A : Addr} {ws : List V} {i : Nat} (j : Nat) (hG : Same G H) (h0 : σ[0]? = some (some (.ref A))) (hA : G A = some (.tup ws)) (he : ws[j]? = some v) (h1 : σ[i]? = some (some (.ref a))) (h2 : σ[2]? = some (some (.int o)))
    (R : ERep G v x) (ok : x.ok ks) (lv : x.lvl ≤ n) (I : EvIn G a ks ds o n) (q : ∀ d, ev o x ks ds = .ok d → Bd d → ∀ u p G' H', Gr G H G' H' → H' p = some (.tup [u, .non]) → Rep G' u d → Q (.ref p) H')
    (e : ∀ m, ev o x ks ds = .error m → ∀ p H', Same H H' → H' p = some (.tup [.non, .str m]) → Q (.ref p) H') :
    tCal (spLEv n) E (tCons (tOp (rIxT K) (tVar 0) (tC (.int ((j : Nat) : Int)))) (tCons (tVar i) (tCons (tVar 2) tNil))) σ H Q :=
  at_tup j h0 (hG _ _ hA) he ⟨_, h1, _, h2, lev_call (E := E) hG R ok lv I q e⟩
end
section
variable {K : PySem.W.Frag} {r : TS} {D : Ends} {σ : L2.St} {H : Hp} {i : Nat} {t : Addr}
/-- if x[1] is not None: return x -/
theorem ifErrF {v : V} (h1 : σ[i]? = some (some (.ref t))) (ht : H t = some (.tup [v, .non])) (b : r D σ H) : tSeq (tIfS (tTest (tOp (fun x y H Q => y = .non ∧ Q (.bl (!decide (x = .non))) H) (tOp (rIxT K) (tVar i) (tC (.int 1))) (tC .non))) (tRet (tVar i)) tNext) r D σ H :=
  if_pureN (p := false) (fun Q q => at_tup 1 h1 ht rfl ⟨rfl, _, rfl, q⟩) (fun h => by cases h) fun _ => b
theorem ifErrT {m : Str} (h1 : σ[i]? = some (some (.ref t))) (ht : H t = some (.tup [.non, .str m])) (b : D.rt (.ref t) H) : tSeq (tIfS (tTest (tOp (fun x y H Q => y = .non ∧ Q (.bl (!decide (x = .non))) H) (tOp (rIxT K) (tVar i) (tC (.int 1))) (tC .non))) (tRet (tVar i)) tNext) r D σ H :=
  if_pureN (p := true) (fun Q q => at_tup 1 h1 ht rfl ⟨rfl, _, rfl, q⟩) (fun _ => ⟨_, h1, b⟩) fun h => by cases h
end
theorem mem_logic (s : Sg) : decide (s.s ∈ [("&&" : Str), "||"]) = logic s := by cases s <;> decide +kernel
section
variable {w : World} {K : PySem.W.Frag} {mg : Str → Option Value} {base : Heap} {n k : Nat}
abbrev s_L_boolean : Stmt := topS 99
theorem sc_L_boolean : FnScope ["_law_found"] ["_law_found"] (defScope s_L_boolean) := ⟨rfl, rfl, rfl, by decide +kernel, rfl, by decide +kernel, by decide +kernel⟩
theorem cal_L_boolean (D : DefA K mg "_law_boolean" s_L_boolean) (c__law_kind : Cal PP w K mg base CX0 1 "_law_kind" ["_law_value_here"] spKind) : Cal PP w K mg base CX0 2 "_law_boolean" ["_law_found"] spLBool := by
  refine cal_mk D sc_L_boolean (fun _ _ _ _ _ _ us hl => match us, hl with | [_], _ => rfl) (fun vs H Q E h => ?_) (fun f cdv A outer s H vs Q E hr h => ?_)
  · obtain ⟨t, rfl, _⟩ := h
    rfl
  obtain ⟨t, rfl, h⟩ := h
  refine ⟨_, (pss_cons (ps_if (PW.pt (pw_and (pt_cmpR op_isN (pe_ix ix_tup (pv 0) pe_int (fun _ _ => rfl)) pe_non (nomark _)) (pw_and1 (pt_cmpR op_ne (pe_cal c__law_kind hr (by rfl) (pa_cons (pe_ix ix_tup (pv 0) pe_int (fun _ _ => rfl)) pa_nil)) pe_str (nomark _))))) (pss_one (ps_ret (pe_tup (pa_cons pe_non (pa_cons pe_str pa_nil))))) pss_nil)
    (pss_one (ps_ret (pv 0)))), ?_⟩
  rcases h with ⟨v, d, ht, R, q1, q2⟩ | ⟨m, ht, q⟩
  · refine if_pureN (p := true && !decide (d.kd = .boolean)) (PureT.and (fun Q q => at_tup 1 rfl ht rfl ⟨rfl, _, rfl, q⟩) fun _ Q q => at_tup 0 rfl ht rfl ⟨v, d, rfl, R, rfl, _, congrArg (fun b => V.bl (!b)) (kd_dec d.kd .boolean), q⟩) (fun h => ?_) fun h => ?_
    · exact ⟨by show 2 ≤ sizeLine; decide, fun p hp => q2 (by simpa using h) p _ (same_new hp _) upd_same⟩
    · exact ⟨_, rfl, q1 (by simpa using h)⟩
  · exact if_pureN (p := false && false) (PureT.and (fun Q q => at_tup 1 rfl ht rfl ⟨rfl, _, rfl, q⟩) fun h => by cases h) (fun h => by cases h) fun _ => ⟨_, rfl, q⟩
abbrev s_L_two : Stmt := topS 101
theorem sc_L_two : FnScope ["_law_expression_here", "_law_environment_here", "_law_owner", "_law_first", "_law_second"] ["_law_expression_here", "_law_environment_here", "_law_owner"] (defScope s_L_two) := ⟨rfl, rfl, rfl, by decide +kernel, rfl, by decide +kernel, by decide +kernel⟩
theorem cal_L_two (D : DefA K mg "_law_two" s_L_two) (hk : 43 ≤ k) (c__law_boolean : Cal PP w K mg base CX0 2 "_law_boolean" ["_law_found"] spLBool) (c__law_operate : Cal PP w K mg base CX0 43 "_law_operate" ["_law_sign", "_law_first", "_law_second"] spLSgn)
    (c__law_eval : Cal PP w K mg base CX0 k "_law_eval" ["_law_expression_here", "_law_environment_here", "_law_owner"] (spLEv n)) : Cal PP w K mg base CX0 (k + 1) "_law_two" ["_law_expression_here", "_law_environment_here", "_law_owner"] (spLEvP isBin (n + 1)) := by
  have c__law_boolean := c__law_boolean.mono (show 2 ≤ k by omega)
  have c__law_operate := c__law_operate.mono hk
  refine cal_mk D sc_L_two (fun _ _ _ _ _ _ us hl => match us, hl with | [_, _, _], _ => rfl) (fun vs H Q E h => ?_) (fun f cdv A outer s H vs Q E hr h => ?_)
  · obtain ⟨G, v, a, o, x, ks, ds, rfl, _⟩ := h
    rfl
  obtain ⟨G, v, a, o, x, ks, ds, rfl, hG, R, px, ok, lv, I, q⟩ := h
  refine ⟨_, (pss_cons (ps_set (i := 3) sc_L_two.nd rfl (Or.inl rfl) (pe_cal c__law_eval hr (by rfl) (pa_cons (pe_ix ix_tup (pv 0) pe_int (fun _ _ => rfl)) (pa_cons (pv 1) (pa_cons (pv 2) pa_nil)))))
    (pss_cons (ps_if (pt_cmpR op_notN (pe_ix ix_tup (pv 3) pe_int (fun _ _ => rfl)) pe_non (nomark _)) (pss_one (ps_ret (pv 3))) pss_nil)
    (pss_cons (ps_if (pt_cmpR op_in_seq (pe_ix ix_tup (pv 0) pe_int (fun _ _ => rfl)) (pe_tup (pa_cons pe_str (pa_cons pe_str pa_nil))) rfl) (pss_cons (ps_set (i := 3) sc_L_two.nd rfl (Or.inl rfl) (pe_cal c__law_boolean hr (by rfl) (pa_cons (pv 3) pa_nil)))
    (pss_cons (ps_if (PW.pt (pw_or (pt_cmpR op_notN (pe_ix ix_tup (pv 3) pe_int (fun _ _ => rfl)) pe_non (nomark _)) (pw_or1 (pt_cmpR op_eq (pe_ix ix_tup (pv 3) pe_int (fun _ _ => rfl)) (pe_cmpR op_eq (pe_ix ix_tup (pv 0) pe_int (fun _ _ => rfl)) pe_str (nomark _)) (nomark _))))) (pss_one (ps_ret (pv 3))) pss_nil)
    (pss_one (ps_ret (pe_cal c__law_boolean hr (by rfl) (pa_cons (pe_cal c__law_eval hr (by rfl) (pa_cons (pe_ix ix_tup (pv 0) pe_int (fun _ _ => rfl)) (pa_cons (pv 1) (pa_cons (pv 2) pa_nil)))) pa_nil)))))) pss_nil)
    (pss_cons (ps_set (i := 4) sc_L_two.nd rfl (Or.inl rfl) (pe_cal c__law_eval hr (by rfl) (pa_cons (pe_ix ix_tup (pv 0) pe_int (fun _ _ => rfl)) (pa_cons (pv 1) (pa_cons (pv 2) pa_nil)))))
    (pss_cons (ps_if (pt_cmpR op_notN (pe_ix ix_tup (pv 4) pe_int (fun _ _ => rfl)) pe_non (nomark _)) (pss_one (ps_ret (pv 4))) pss_nil)
    (pss_one (ps_ret (pe_cal c__law_operate hr (by rfl) (pa_cons (pe_ix ix_tup (pv 0) pe_int (fun _ _ => rfl)) (pa_cons (pe_ix ix_tup (pv 3) pe_int (fun _ _ => rfl)) (pa_cons (pe_ix ix_tup (pv 4) pe_int (fun _ _ => rfl)) pa_nil))))))))))), ?_⟩
  cases R with
  | @bin A s v u x y hA r1 r2 =>
    rw [Ex.ok] at ok
    rw [Ex.lvl] at lv
    rw [ev] at q
    have I' := I.less (Nat.le_succ n)
    refine setS (sub_lev 2 hG rfl hA rfl rfl rfl r1 ok.1 (by omega) I' (fun d1 e1 b1 v1 t1 G1 H1 g1 ht1 R1 => ?_) fun m e1 t1 H1 s1 ht1 => ifErrT rfl ht1 (q.2 m (by rw [e1]; rfl) t1 H1 s1 ht1))
    rw [e1, onOk_v] at q
    have hA1 := g1.s _ _ (hG _ _ hA)
    refine ifErrF rfl ht1 (if_tstN (tin2 "&&" "||" (val_tup 1 rfl hA1 rfl)) (fun h H2 s2 => ?_) fun h H2 s2 => ?_)
    · have h : decide (s.s ∈ [("&&" : Str), "||"]) = true := h
      rw [mem_logic] at h
      rw [if_pos h] at q
      have g2 := g1.to s2
      have ht2 := s2 _ _ ht1
      refine setS ⟨_, rfl, t1, rfl, .inl ⟨v1, d1, ht2, R1.mono (rds_of g2.i), fun k1 => ?_, fun k1 p H3 s3 hp => ?_⟩⟩
      · cases R1 with
        | bl b =>
          rw [asBl_v] at q
          have eb : decide (V.bl b = V.bl (decide (V.str s.s = V.str "||"))) = decide (b = decide (s = .or)) := by
            have e0 : decide (V.str s.s = V.str "||") = decide (s = .or) := sg_dec s .or
            rw [e0]
            exact decide_eq_decide.mpr ⟨fun z => by cases z; rfl, fun z => by rw [← z]⟩
          refine if_pureN (p := false || decide (b = decide (s = .or))) (PureT.or (fun Q q => at_tup 1 rfl ht2 rfl ⟨rfl, _, rfl, q⟩) fun _ Q q => at_tup 0 rfl ht2 rfl (at_tup 1 rfl (s2 _ _ hA1) rfl ⟨rfl, rfl, _, congrArg V.bl eb, q⟩)) (fun h2 => ?_) fun h2 => ?_
          · rw [if_pos (of_decide_eq_true h2)] at q
            exact ⟨_, rfl, q.1 _ rfl _ _ _ _ g2 ht2 (.bl b)⟩
          · rw [if_neg (of_decide_eq_false h2)] at q
            refine sub_lev 3 g2.i rfl (g2.g _ _ hA) rfl rfl rfl (r2.mono (rds_of g2.g)) ok.2 (by omega) (I'.mono (rds_of g2.g)) (fun d2 e2 b2 v2 t2 G3 H3 g3 ht3 R2 => ?_) fun m e2 t2 H3 s3 ht3 => ⟨t2, rfl, .inr ⟨m, ht3, q.2 m (by rw [e2]; rfl) _ _ (g2.s.trans s3) ht3⟩⟩
            rw [e2, onOk_v] at q
            refine ⟨t2, rfl, .inl ⟨v2, d2, ht3, R2.mono (rds_of g3.i), fun k2 => ?_, fun k2 p H4 s4 hp => q.2 _ (asBl_e k2 _) p H4 ((g2.trans g3).s.trans s4) hp⟩⟩
            cases R2 with
            | bl c2 => exact q.1 _ rfl _ _ _ _ (g2.trans g3) ht3 (.bl c2)
            | _ => cases k2
        | _ => cases k1
      · exact if_pureN (p := true || false) (PureT.or (fun Q q => at_tup 1 rfl hp rfl ⟨rfl, _, rfl, q⟩) fun h => by cases h) (fun _ => ⟨_, rfl, q.2 _ (asBl_e k1 _) p H3 (g2.s.trans s3) hp⟩) fun h => by cases h
    · have h : decide (s.s ∈ [("&&" : Str), "||"]) = false := h
      rw [mem_logic] at h
      have ho : isOp s = true := by cases s <;> first | rfl | exact absurd h (by decide)
      rw [if_neg (by rw [h]; exact Bool.false_ne_true)] at q
      have g2 := g1.to s2
      refine setS (sub_lev 3 g2.i rfl (g2.g _ _ hA) rfl rfl rfl (r2.mono (rds_of g2.g)) ok.2 (by omega) (I'.mono (rds_of g2.g)) (fun d2 e2 b2 v2 t2 G3 H3 g3 ht3 R2 => ?_) fun m e2 t2 H3 s3 ht3 => ifErrT rfl ht3 (q.2 m (by rw [e2]; rfl) t2 H3 (g2.s.trans s3) ht3))
      rw [e2, onOk_v] at q
      have g23 := g2.trans g3
      refine ifErrF rfl ht3 (at_tup 1 rfl (g23.s _ _ (hG _ _ hA)) rfl (at_tup 0 rfl (g3.s _ _ (s2 _ _ ht1)) rfl (at_tup 0 rfl ht3 rfl ?_)))
      exact ⟨s, G3, v1, v2, d1, d2, rfl, ho, g3.i, R1.mono (rds_of g3.g), R2, b1, b2, q.later g23⟩
  | _ => exact px.elim
abbrev s_L_one : Stmt := topS 102
theorem sc_L_one : FnScope ["_law_expression_here", "_law_environment_here", "_law_owner", "_law_first", "_law_place"] ["_law_expression_here", "_law_environment_here", "_law_owner"] (defScope s_L_one) := ⟨rfl, rfl, rfl, by decide +kernel, rfl, by decide +kernel, by decide +kernel⟩
theorem cal_L_one (D : DefA K mg "_law_one" s_L_one) (hk : 43 ≤ k) (c__law_kind : Cal PP w K mg base CX0 1 "_law_kind" ["_law_value_here"] spKind) (c__law_bounded : Cal PP w K mg base CX0 1 "_law_bounded" ["_law_number_here"] spLBN) (c__law_field : Cal PP w K mg base CX0 2 "_law_field" ["_law_value_here", "_law_name"] spLField)
    (c__law_at : Cal PP w K mg base CX0 2 "_law_at" ["_law_value_here", "_law_place"] spLAt) (c__law_eval : Cal PP w K mg base CX0 k "_law_eval" ["_law_expression_here", "_law_environment_here", "_law_owner"] (spLEv n)) : Cal PP w K mg base CX0 (k + 1) "_law_one" ["_law_expression_here", "_law_environment_here", "_law_owner"] (spLEvP isPart (n + 1)) := by
  have c__law_kind := c__law_kind.mono (show 1 ≤ k by omega)
  have c__law_bounded := c__law_bounded.mono (show 1 ≤ k by omega)
  have c__law_field := c__law_field.mono (show 2 ≤ k by omega)
  have c__law_at := c__law_at.mono (show 2 ≤ k by omega)
  refine cal_mk D sc_L_one (fun _ _ _ _ _ _ us hl => match us, hl with | [_, _, _], _ => rfl) (fun vs H Q E h => ?_) (fun f cdv A outer s H vs Q E hr h => ?_)
  · obtain ⟨G, v, a, o, x, ks, ds, rfl, _⟩ := h
    rfl
  obtain ⟨G, v, a, o, x, ks, ds, rfl, hG, R, px, ok, lv, I, q⟩ := h
  refine ⟨_, (pss_cons (ps_set (i := 3) sc_L_one.nd rfl (Or.inl rfl) (pe_cal c__law_eval hr (by rfl) (pa_cons (pe_ix ix_tup (pv 0) pe_int (fun _ _ => rfl)) (pa_cons (pv 1) (pa_cons (pv 2) pa_nil)))))
    (pss_cons (ps_if (pt_cmpR op_notN (pe_ix ix_tup (pv 3) pe_int (fun _ _ => rfl)) pe_non (nomark _)) (pss_one (ps_ret (pv 3))) pss_nil)
    (pss_cons (ps_if (pt_cmpR op_eq (pe_ix ix_tup (pv 0) pe_int (fun _ _ => rfl)) pe_str (nomark _)) (pss_cons (ps_if (pt_cmpR op_ne (pe_cal c__law_kind hr (by rfl) (pa_cons (pe_ix ix_tup (pv 3) pe_int (fun _ _ => rfl)) pa_nil)) pe_str (nomark _)) (pss_one (ps_ret (pe_tup (pa_cons pe_non (pa_cons pe_str pa_nil))))) pss_nil)
    (pss_one (ps_ret (pe_tup (pa_cons (pe_not (pe_ix ix_tup (pv 3) pe_int (fun _ _ => rfl))) (pa_cons pe_non pa_nil)))))) pss_nil)
    (pss_cons (ps_if (pt_cmpR op_eq (pe_ix ix_tup (pv 0) pe_int (fun _ _ => rfl)) pe_str (nomark _)) (pss_cons (ps_if (pt_cmpR op_ne (pe_cal c__law_kind hr (by rfl) (pa_cons (pe_ix ix_tup (pv 3) pe_int (fun _ _ => rfl)) pa_nil)) pe_str (nomark _)) (pss_one (ps_ret (pe_tup (pa_cons pe_non (pa_cons pe_str pa_nil))))) pss_nil)
    (pss_one (ps_ret (pe_cal c__law_bounded hr (by rfl) (pa_cons (pe_op op_sub pe_int (pe_ix ix_tup (pv 3) pe_int (fun _ _ => rfl))) pa_nil))))) pss_nil)
    (pss_cons (ps_if (pt_cmpR op_eq (pe_ix ix_tup (pv 0) pe_int (fun _ _ => rfl)) pe_str (nomark _)) (pss_one (ps_ret (pe_cal c__law_field hr (by rfl) (pa_cons (pe_ix ix_tup (pv 3) pe_int (fun _ _ => rfl)) (pa_cons (pe_ix ix_tup (pv 0) pe_int (fun _ _ => rfl)) pa_nil))))) pss_nil)
    (pss_cons (ps_set (i := 4) sc_L_one.nd rfl (Or.inl rfl) (pe_cal c__law_eval hr (by rfl) (pa_cons (pe_ix ix_tup (pv 0) pe_int (fun _ _ => rfl)) (pa_cons (pv 1) (pa_cons (pv 2) pa_nil)))))
    (pss_cons (ps_if (pt_cmpR op_notN (pe_ix ix_tup (pv 4) pe_int (fun _ _ => rfl)) pe_non (nomark _)) (pss_one (ps_ret (pv 4))) pss_nil)
    (pss_one (ps_ret (pe_cal c__law_at hr (by rfl) (pa_cons (pe_ix ix_tup (pv 3) pe_int (fun _ _ => rfl)) (pa_cons (pe_ix ix_tup (pv 4) pe_int (fun _ _ => rfl)) pa_nil)))))))))))), ?_⟩
  have I' := I.less (Nat.le_succ n)
  cases R with
  | @neg A v x hA r1 =>
    rw [Ex.ok] at ok
    rw [Ex.lvl] at lv
    rw [ev] at q
    refine setS (sub_lev 1 hG rfl hA rfl rfl rfl r1 ok (by omega) I' (fun d1 e1 b1 v1 t1 G1 H1 g1 ht1 R1 => ?_) fun m e1 t1 H1 s1 ht1 => ifErrT rfl ht1 (q.2 m (by rw [e1]; rfl) t1 H1 s1 ht1))
    rw [e1, onOk_v] at q
    have hA1 := g1.s _ _ (hG _ _ hA)
    refine ifErrF rfl ht1 (ifvF (val_tup 0 rfl hA1 rfl) (by decide +kernel) (ifvT (val_tup 0 rfl hA1 rfl) (by decide +kernel) ?_))
    refine if_pureN (p := !decide (d1.kd = .number)) (fun Q q => at_tup 0 rfl ht1 rfl ⟨v1, d1, rfl, R1.mono (rds_of g1.i), rfl, _, congrArg (fun b => V.bl (!b)) (kd_dec d1.kd .number), q⟩) (fun h => ?_) fun h => ?_
    · exact q.bad (by cases d1 <;> first | rfl | (simp [Dat.kd] at h; done)) g1.s
    · cases R1 with
      | int i =>
        refine at_tup 0 rfl ht1 rfl ⟨_, _, rfl, rfl, G1, 0 - i, rfl, g1.i, ?_⟩
        rw [Int.zero_sub]
        exact q.later g1
      | _ => simp [Dat.kd] at h
  | @not A v x hA r1 =>
    rw [Ex.ok] at ok
    rw [Ex.lvl] at lv
    rw [ev] at q
    refine setS (sub_lev 1 hG rfl hA rfl rfl rfl r1 ok (by omega) I' (fun d1 e1 b1 v1 t1 G1 H1 g1 ht1 R1 => ?_) fun m e1 t1 H1 s1 ht1 => ifErrT rfl ht1 (q.2 m (by rw [e1]; rfl) t1 H1 s1 ht1))
    rw [e1, onOk_v] at q
    have hA1 := g1.s _ _ (hG _ _ hA)
    refine ifErrF rfl ht1 (ifvT (val_tup 0 rfl hA1 rfl) (by decide +kernel) ?_)
    refine if_pureN (p := !decide (d1.kd = .boolean)) (fun Q q => at_tup 0 rfl ht1 rfl ⟨v1, d1, rfl, R1.mono (rds_of g1.i), rfl, _, congrArg (fun b => V.bl (!b)) (kd_dec d1.kd .boolean), q⟩) (fun h => ?_) fun h => ?_
    · exact q.bad (asBl_e (by simpa using h) _) g1.s
    · cases R1 with
      | bl b => exact at_tup 0 rfl ht1 rfl ⟨b, rfl, q.put rfl g1 (.bl _)⟩
      | _ => simp [Dat.kd] at h
  | @field A v y x hA r1 =>
    rw [Ex.ok] at ok
    rw [Ex.lvl] at lv
    rw [ev] at q
    refine setS (sub_lev 1 hG rfl hA rfl rfl rfl r1 ok.2 (by omega) I' (fun d1 e1 b1 v1 t1 G1 H1 g1 ht1 R1 => ?_) fun m e1 t1 H1 s1 ht1 => ifErrT rfl ht1 (q.2 m (by rw [e1]; rfl) t1 H1 s1 ht1))
    rw [e1, onOk_v] at q
    have hA1 := g1.s _ _ (hG _ _ hA)
    refine ifErrF rfl ht1 (ifvF (val_tup 0 rfl hA1 rfl) (by decide +kernel) (ifvF (val_tup 0 rfl hA1 rfl) (by decide +kernel) (ifvT (val_tup 0 rfl hA1 rfl) (by decide +kernel) ?_)))
    exact at_tup 0 rfl ht1 rfl (at_tup 2 rfl hA1 rfl ⟨G1, v1, y, d1, rfl, g1.i, R1, Nat.le_trans ok.1 (by decide), q.later g1⟩)
  | @item A v u x y hA r1 r2 =>
    rw [Ex.ok] at ok
    rw [Ex.lvl] at lv
    rw [ev] at q
    refine setS (sub_lev 1 hG rfl hA rfl rfl rfl r1 ok.1 (by omega) I' (fun d1 e1 b1 v1 t1 G1 H1 g1 ht1 R1 => ?_) fun m e1 t1 H1 s1 ht1 => ifErrT rfl ht1 (q.2 m (by rw [e1]; rfl) t1 H1 s1 ht1))
    rw [e1, onOk_v] at q
    have hA1 := g1.s _ _ (hG _ _ hA)
    refine ifErrF rfl ht1 (ifvF (val_tup 0 rfl hA1 rfl) (by decide +kernel) (ifvF (val_tup 0 rfl hA1 rfl) (by decide +kernel) (ifvF (val_tup 0 rfl hA1 rfl) (by decide +kernel) ?_)))
    refine setS (sub_lev 2 g1.i rfl (g1.g _ _ hA) rfl rfl rfl (r2.mono (rds_of g1.g)) ok.2 (by omega) (I'.mono (rds_of g1.g)) (fun d2 e2 b2 v2 t2 G2 H2 g2 ht2 R2 => ?_) fun m e2 t2 H2 s2 ht2 => ifErrT rfl ht2 (q.2 m (by rw [e2]; rfl) t2 H2 (g1.s.trans s2) ht2))
    rw [e2, onOk_v] at q
    exact ifErrF rfl ht2 (at_tup 0 rfl (g2.s _ _ ht1) rfl (at_tup 0 rfl ht2 rfl ⟨G2, v1, v2, d1, d2, rfl, g2.i, R1.mono (rds_of g2.g), R2, b1.wd, q.later (g1.trans g2)⟩))
  | _ => exact px.elim
end
end Vk
set_option maxHeartbeats 4000000
/-! the law's own evaluator: lists, what is written, gatherings -/
namespace Vk
open PySem PySem.Spec PyProof.Rows L2
theorem Gr.out {G H G1 H1 : Hp} (g : Gr G H G1 H1) {L : Addr} {o : HO} (h : G L = none) (h2 : H L = some o) : G1 L = none := by
  cases q : G1 L with
  | none => rfl
  | some u =>
    have := g.n L u q h
    rw [h2] at this
    cases this
theorem Gr.set {G H G1 H1 : Hp} (g : Gr G H G1 H1) {L : Addr} (h : G1 L = none) (hL : H L = none) (o : HO) : Gr G H G1 (upd H1 L o) :=
  ⟨g.g, same_upd g.s hL, fun b u e => by rw [upd_ne (fun z => by rw [z, h] at e; cases e)]; exact g.i b u e, g.n⟩
theorem Gr.add {G H G1 H1 : Hp} (g : Gr G H G1 H1) {L : Addr} {o : HO} (hL : H L = none) (h : G1 L = none) (h1 : H1 L = some o) : Gr G H (upd G1 L o) H1 := by
  refine ⟨g.g.trans (same_new h o), g.s, fun b u e => ?_, fun b u e f => ?_⟩
  · by_cases z : b = L
    · rw [z, upd_same] at e
      cases e
      rw [z]
      exact h1
    · rw [upd_ne z] at e
      exact g.i b u e
  · by_cases z : b = L
    · rw [z]; exact hL
    · rw [upd_ne z] at e
      exact g.n b u e f
def LPv (G H : Hp) (l a L : Addr) (o : Int) (f : Ex → Except Str (Option Dat)) (xs : List Ex) (j : Nat) (σ : L2.St) (H' : Hp) : Prop :=
  ∃ acc pre G' x4 x5, σ = [some (.ref l), some (.ref a), some (.int o), some (.ref L), x4, x5] ∧ H' L = some (.lst acc) ∧ Gr G H G' H' ∧ G' L = none ∧ Reps G' acc pre ∧ goAll f (xs.take j) = .ok pre ∧ acc.length ≤ j
section
variable {w : World} {K : PySem.W.Frag} {mg : Str → Option Value} {base : Heap} {n k : Nat}
abbrev s_L_all : Stmt := topS 98
theorem sc_L_all : FnScope ["_law_parts_here", "_law_environment_here", "_law_owner", "_law_values", "_law_part", "_law_found"] ["_law_parts_here", "_law_environment_here", "_law_owner"] (defScope s_L_all) := ⟨rfl, rfl, rfl, by decide +kernel, rfl, by decide +kernel, by decide +kernel⟩
theorem cal_L_all (D : DefA K mg "_law_all" s_L_all) (c__law_eval : Cal PP w K mg base CX0 k "_law_eval" ["_law_expression_here", "_law_environment_here", "_law_owner"] (spLEv n)) : Cal PP w K mg base CX0 (k + 1) "_law_all" ["_law_parts_here", "_law_environment_here", "_law_owner"] (spLAll n) := by
  refine cal_mk D sc_L_all (fun _ _ _ _ _ _ us hl => match us, hl with | [_, _, _], _ => rfl) (fun vs H Q E h => ?_) (fun f cdv A outer s H vs Q E hr h => ?_)
  · obtain ⟨G, l, us, a, o, xs, ks, ds, rfl, _⟩ := h
    rfl
  obtain ⟨G, l, us, a, o, xs, ks, ds, rfl, hG, hl, R, ok, lv, sm1, I, q1, q2⟩ := h
  refine ⟨_, (pss_cons (ps_set (i := 3) sc_L_all.nd rfl (Or.inl rfl) (pe_lst pa_nil))
    (pss_cons (ps_for (passes_of rfl) rfl (pi_list (pv 0)) (pg_name (i := 4) sc_L_all.nd rfl (Or.inl rfl)) (pss_cons (ps_set (i := 5) sc_L_all.nd rfl (Or.inl rfl) (pe_cal c__law_eval hr (by rfl) (pa_cons (pv 4) (pa_cons (pv 1) (pa_cons (pv 2) pa_nil)))))
    (pss_cons (ps_if (pt_cmpR op_notN (pe_ix ix_tup (pv 5) pe_int (fun _ _ => rfl)) pe_non (nomark _)) (pss_one (ps_ret (pv 5))) pss_nil)
    (pss_one (ps_expr (pe_bm PySem.F.plainAttrs_list PySem.F.slot_list_append PySem.F.type_list_append mt_append (pv 3) (pa_cons (pe_ix ix_tup (pv 5) pe_int (fun _ _ => rfl)) pa_nil)))))))
    (pss_one (ps_ret (pe_tup (pa_cons (pv 3) (pa_cons pe_non pa_nil))))))), ?_⟩
  have ln := R.len
  refine setS ⟨Nat.zero_le _, fun L hL => ⟨_, rfl, l, rfl, ⟨us, .inl (.inl (same_new hL _ _ _ hl))⟩, ?_⟩⟩
  have gL : G L = none := hG.free hL
  refine for_it walk_list (Pv := LPv G H l a L o (fun x => sm (ev o x ks ds)) xs.toL) ⟨[], [], G, _, _, rfl, upd_same, hG.gr (same_new hL _), gL, .nil, by rw [List.take_zero]; rfl, Nat.le_refl _⟩ (fun _ _ _ _ ⟨_, _, _, _, _, _, _, g, _⟩ => .inl (.inl (g.s _ _ hl))) (fun j x σ H2 H' hj pv yy => ?_) fun σ H' pv => ?_
  · obtain ⟨acc, pre, G', x4, x5, rfl, p1, g, p3, p4, p5, p6⟩ := pv
    obtain ⟨rfl, hx⟩ := yy
    obtain ⟨e, he, re⟩ := R.get hx
    have m := Exs.mem (List.mem_of_getElem? he) ok
    refine setS ⟨_, rfl, _, rfl, _, rfl, lev_call (E := E0) g.i (re.mono (rds_of g.g)) m.1 (by omega) (I.mono (rds_of g.g)) (fun d e1 b1 u t G2 H2 g2 ht R2 => ?_) fun mm e1 t H2 s2 ht => ?_⟩
    · have gl2 := g2.out p3 p1
      refine ifErrF rfl ht ⟨_, rfl, .inl ⟨rfl, acc, .inl (.inl (g2.s _ _ p1))⟩, at_tup 0 rfl ht rfl ⟨L, acc, u, rfl, rfl, g2.s _ _ p1, small2 (by omega), ?_⟩⟩
      exact ⟨acc ++ [u], pre ++ [d], G2, _, _, rfl, upd_same, (g.trans g2).set gl2 hL _, gl2, (p4.mono (rds_of g2.g)).app (.cons R2 .nil), go_step (o := some d) p5 he (by show sm (ev o e ks ds) = _; rw [e1]; rfl), by rw [List.length_append]; show acc.length + 1 ≤ j + 1; omega⟩
    · exact ifErrT rfl ht (q2 mm (by rw [evs_go]; exact go_err p5 he (by show sm (ev o e ks ds) = _; rw [e1]; rfl)) t H2 (g.s.trans s2) ht)
  · obtain ⟨acc, pre, G', x4, x5, rfl, p1, g, p3, p4, p5, p6⟩ := pv
    rw [ln.1, List.take_length] at p5
    exact ⟨_, rfl, by show 2 ≤ sizeLine; decide, fun p hp => q1 pre (by rw [evs_go]; exact p5) p L acc G' _ (g.to (same_new hp _)) upd_same (by rw [upd_ne (ne_of_none p1 hp)]; exact p1) p4 p3 hL⟩
theorem ERecs.seconds {H : Hp} : ∀ {us : List V} {ns : List Str} {xs : Exs}, ERecs H us ns xs → ∃ vs, vs.length = us.length ∧ EReps H vs xs ∧ ∀ (i : Nat) (u v : V), us[i]? = some u → vs[i]? = some v → ∃ p n, u = .ref p ∧ H p = some (.tup [.str n, v])
  | _, _, _, .nil => ⟨[], rfl, .nil, fun _ _ _ h => by cases h⟩
  | _, _, _, .cons hp h r => by
    obtain ⟨vs, h1, h2, h3⟩ := r.seconds
    refine ⟨_ :: vs, congrArg (· + 1) h1, .cons h h2, fun i u v e1 e2 => ?_⟩
    cases i with
    | zero =>
      simp only [List.getElem?_cons_zero, Option.some.injEq] at e1 e2
      subst e1
      subst e2
      exact ⟨_, _, rfl, hp⟩
    | succ i =>
      simp only [List.getElem?_cons_succ] at e1 e2
      exact h3 i u v e1 e2
def isWr : Ex → Prop
  | .lst _ => True
  | .rcd _ _ => True
  | .act _ _ => True
  | .fn _ _ => True
  | _ => False
abbrev s_L_written : Stmt := topS 103
theorem sc_L_written : FnScope ["_law_expression_here", "_law_environment_here", "_law_owner", "_law_values", "_law_pair", "_law_record", "_law_k"] ["_law_expression_here", "_law_environment_here", "_law_owner"] (defScope s_L_written) := ⟨rfl, rfl, rfl, by decide +kernel, rfl, by decide +kernel, by decide +kernel⟩
theorem cal_L_written (D : DefA K mg "_law_written" s_L_written) (z : Nm mg) (hk : 43 ≤ k) (c__law_made : Cal PP w K mg base CX0 25 "_law_made" ["_law_value_here"] spLMade) (c__law_call : Cal PP w K mg base CX0 26 "_law_call" ["_law_name", "_law_arguments"] spLCall)
    (c__law_all : Cal PP w K mg base CX0 (k + 1) "_law_all" ["_law_parts_here", "_law_environment_here", "_law_owner"] (spLAll n)) : Cal PP w K mg base CX0 (k + 2) "_law_written" ["_law_expression_here", "_law_environment_here", "_law_owner"] (spLEvP isWr (n + 1)) := by
  have c__law_made := c__law_made.mono (show 25 ≤ k + 1 by omega)
  have c__law_call := c__law_call.mono (show 26 ≤ k + 1 by omega)
  refine cal_mk D sc_L_written (fun _ _ _ _ _ _ us hl => match us, hl with | [_, _, _], _ => rfl) (fun vs H Q E h => ?_) (fun f cdv A outer s H vs Q E hr h => ?_)
  · obtain ⟨G, v, a, o, x, ks, ds, rfl, _⟩ := h
    rfl
  obtain ⟨G, v, a, o, x, ks, ds, rfl, hG, R, px, ok, lv, I, q⟩ := h
  have hu := hu_of hr
  refine ⟨_, (pss_cons (ps_if (pt_cmpR op_eq (pe_ix ix_tup (pv 0) pe_int (fun _ _ => rfl)) pe_str (nomark _)) (pss_one (ps_set (i := 3) sc_L_written.nd rfl (Or.inl rfl) (pe_cal c__law_all hr (by rfl) (pa_cons (pe_lc (own := [("_law_pair", 4)]) (g := gName 4) (tt := tYes) rfl sc_L_written.nd (pi_list (pe_ix ix_tup (pv 0) pe_int (fun _ _ => rfl))) (blkOk_by (N := ["_law_expression_here", "_law_environment_here", "_law_owner", "_law_values", "_law_pair", "_law_record", "_law_k"]) (sc := defScope s_L_written) (by decide +kernel)) (fun _ _ _ _ _ => pg_name (i := 4) sc_L_written.nd rfl (Or.inl rfl)) (fun _ _ _ _ _ => pts_nil) (fun _ _ _ _ _ => (pe_ix (ix_tupK (K := K) rfl) (pv 4) pe_int (fun _ _ => rfl)))) (pa_cons (pv 1) (pa_cons (pv 2) pa_nil)))))) (pss_one (ps_if (pt_cmpR op_eq (pe_ix ix_tup (pv 0) pe_int (fun _ _ => rfl)) pe_str (nomark _)) (pss_one (ps_set (i := 3) sc_L_written.nd rfl (Or.inl rfl) (pe_cal c__law_all hr (by rfl) (pa_cons (pe_ix ix_tup (pv 0) pe_int (fun _ _ => rfl)) (pa_cons (pv 1) (pa_cons (pv 2) pa_nil)))))) (pss_one (ps_set (i := 3) sc_L_written.nd rfl (Or.inl rfl) (pe_cal c__law_all hr (by rfl) (pa_cons (pe_ix ix_tup (pv 0) pe_int (fun _ _ => rfl)) (pa_cons (pv 1) (pa_cons (pv 2) pa_nil)))))))))
    (pss_cons (ps_if (pt_cmpR op_notN (pe_ix ix_tup (pv 3) pe_int (fun _ _ => rfl)) pe_non (nomark _)) (pss_one (ps_ret (pv 3))) pss_nil)
    (pss_cons (ps_if (pt_cmpR op_eq (pe_ix ix_tup (pv 0) pe_int (fun _ _ => rfl)) pe_str (nomark _)) (pss_one (ps_ret (pe_cal c__law_made hr (by rfl) (pa_cons (pe_ix ix_tup (pv 3) pe_int (fun _ _ => rfl)) pa_nil)))) pss_nil)
    (pss_cons (ps_if (pt_cmpR op_eq (pe_ix ix_tup (pv 0) pe_int (fun _ _ => rfl)) pe_str (nomark _)) (pss_one (ps_ret (pe_cal c__law_call hr (by rfl) (pa_cons (pe_ix ix_tup (pv 0) pe_int (fun _ _ => rfl)) (pa_cons (pe_ix ix_tup (pv 3) pe_int (fun _ _ => rfl)) pa_nil))))) pss_nil)
    (pss_cons (ps_if (pt_cmpR op_eq (pe_ix ix_tup (pv 0) pe_int (fun _ _ => rfl)) pe_str (nomark _)) (pss_one (ps_ret (pe_cal c__law_made hr (by rfl) (pa_cons (pe_tup (pa_cons pe_str (pa_cons (pv 2) (pa_cons (pe_ix ix_tup (pv 0) pe_int (fun _ _ => rfl)) (pa_cons (pe_ix ix_tup (pv 3) pe_int (fun _ _ => rfl)) pa_nil))))) pa_nil)))) pss_nil)
    (pss_cons (ps_set (i := 5) sc_L_written.nd rfl (Or.inl rfl) pe_dnewK)
    (pss_cons (ps_for (passes_of rfl) rfl (pi_range1 (by rfl) z.range (pa_cons (pe_callB (call_lenK (K := K) rfl) (by rfl) z.len (by decide +kernel) (pa_cons (pe_ix ix_tup (pv 0) pe_int (fun _ _ => rfl)) pa_nil)) pa_nil)) (pg_name (i := 6) sc_L_written.nd rfl (Or.inl rfl)) (pss_one (ps_dput hu (pv 5) (pe_ix ix_tup (pe_ix ix_list (pe_ix ix_tup (pv 0) pe_int (fun _ _ => rfl)) (pv 6) (fun _ _ => rfl)) pe_int (fun _ _ => rfl)) (pe_ix ix_list (pe_ix ix_tup (pv 3) pe_int (fun _ _ => rfl)) (pv 6) (fun _ _ => rfl)) rfl)))
    (pss_one (ps_ret (pe_cal c__law_made hr (by rfl) (pa_cons (pv 5) pa_nil))))))))))), ?_⟩
  have I' := I.less (Nat.le_succ n)
  cases R with
  | @lst A l us xs hA hl R =>
    rw [Ex.ok] at ok
    rw [Ex.lvl] at lv
    rw [ev] at q
    have ln := R.len.2
    have hA0 := hG _ _ hA
    refine ifvE (val_tup 0 rfl hA0 rfl) (p := false) (by decide +kernel) (fun h => by cases h) fun _ => ifvI (val_tup 0 rfl hA0 rfl) (p := true) (by decide +kernel) (fun _ => ?_) fun h => by cases h
    refine at_tup 1 rfl hA0 rfl ⟨_, rfl, _, rfl, G, l, us, a, o, xs, ks, ds, rfl, hG, hG _ _ hl, R, ok.2, by omega, by have := ok.1; omega, I', fun rs hrs p L ws G1 H1 g1 hp hL Rs gl hl0 => ?_, fun m hm p H1 s1 hp => ifErrT rfl hp (q.2 m (by rw [hm]; rfl) p H1 s1 hp)⟩
    rw [hrs, onOks_v] at q
    obtain ⟨b1, b2⟩ := evs_bd I.ob xs ok.2 I.ok hrs
    refine ifErrF rfl hp (ifvT (val_tup 0 rfl (g1.s _ _ hA0) rfl) (by decide +kernel) (at_tup 0 rfl hp rfl ?_))
    have g2 := g1.add hl0 gl hL
    refine ⟨_, .ref L, .lst rs, rfl, g2.i, .lst upd_same (Rs.mono (rds_of (same_new gl _))), ⟨by have := ok.1; omega, WDL_bd b1⟩, ?_, q.later g2⟩
    rw [Dat.dep]
    have := depL_bd b1
    omega
  | @fn A l f us xs hA hl R =>
    rw [Ex.ok] at ok
    rw [Ex.lvl] at lv
    rw [ev] at q
    have ln := R.len.2
    have ar : f.ar ≤ 3 := by cases f <;> decide
    have hA0 := hG _ _ hA
    refine ifvE (val_tup 0 rfl hA0 rfl) (p := false) (by decide +kernel) (fun h => by cases h) fun _ => ifvI (val_tup 0 rfl hA0 rfl) (p := false) (by decide +kernel) (fun h => by cases h) fun _ => ?_
    refine at_tup 2 rfl hA0 rfl ⟨_, rfl, _, rfl, G, l, us, a, o, xs, ks, ds, rfl, hG, hG _ _ hl, R, ok.2, by omega, by have := ok.1; omega, I', fun rs hrs p L ws G1 H1 g1 hp hL Rs gl hl0 => ?_, fun m hm p H1 s1 hp => ifErrT rfl hp (q.2 m (by rw [hm]; rfl) p H1 s1 hp)⟩
    rw [hrs, onOks_v] at q
    obtain ⟨b1, b2⟩ := evs_bd I.ob xs ok.2 I.ok hrs
    have hA1 := g1.s _ _ hA0
    refine ifErrF rfl hp (ifvF (val_tup 0 rfl hA1 rfl) (by decide +kernel) (ifvT (val_tup 0 rfl hA1 rfl) (by decide +kernel) (at_tup 1 rfl hA1 rfl (at_tup 0 rfl hp rfl ?_))))
    exact ⟨f, G1, L, ws, rs, rfl, hL, g1.i, Rs, b1, by rw [b2]; exact ok.1, q.later g1⟩
  | @act A l nm us xs hA hl R =>
    rw [Ex.ok] at ok
    rw [Ex.lvl] at lv
    rw [ev] at q
    have ln := R.len.2
    have hA0 := hG _ _ hA
    refine ifvE (val_tup 0 rfl hA0 rfl) (p := false) (by decide +kernel) (fun h => by cases h) fun _ => ifvI (val_tup 0 rfl hA0 rfl) (p := false) (by decide +kernel) (fun h => by cases h) fun _ => ?_
    refine at_tup 2 rfl hA0 rfl ⟨_, rfl, _, rfl, G, l, us, a, o, xs, ks, ds, rfl, hG, hG _ _ hl, R, ok.2.2, by omega, by have := ok.2.1; omega, I', fun rs hrs p L ws G1 H1 g1 hp hL Rs gl hl0 => ?_, fun m hm p H1 s1 hp => ifErrT rfl hp (q.2 m (by rw [hm]; rfl) p H1 s1 hp)⟩
    rw [hrs, onOks_v] at q
    obtain ⟨b1, b2⟩ := evs_bd I.ob xs ok.2.2 I.ok hrs
    have hA1 := g1.s _ _ hA0
    refine ifErrF rfl hp (ifvF (val_tup 0 rfl hA1 rfl) (by decide +kernel) (ifvF (val_tup 0 rfl hA1 rfl) (by decide +kernel) (ifvT (val_tup 0 rfl hA1 rfl) (by decide +kernel) ⟨_, rfl, at_tup 1 rfl hA1 rfl (at_tup 0 rfl hp rfl ⟨by show 4 ≤ sizeLine; decide, fun t ht => ?_⟩)⟩)))
    have g2 := g1.add hl0 gl hL
    have g3 := g2.new ht (.tup [.str "act", .int o, .str nm, .ref L])
    have gt := g2.i.free ht
    refine ⟨_, .ref t, .act o nm rs, rfl, g3.i, .act upd_same (by rw [upd_ne (ne_of_none upd_same gt)]; exact upd_same) ((Rs.mono (rds_of (same_new gl _))).mono (rds_of (same_new gt _))), ⟨I.ob, by have := ok.1; omega, by have := ok.2.1; omega, WDL_bd b1⟩, ?_, q.later g3⟩
    rw [Dat.dep]
    have := depL_bd b1
    omega
  | @rcd A l ns us xs hA hl R =>
    rw [Ex.ok] at ok
    rw [Ex.lvl] at lv
    rw [ev] at q
    have ln := R.len
    have ln3 := R.lens
    obtain ⟨vs, c1, c2, c3⟩ := R.seconds
    have hA0 := hG _ _ hA
    have hl0' := hG _ _ hl
    refine ifvE (val_tup 0 rfl hA0 rfl) (p := true) (by decide +kernel) (fun _ => ?_) fun h => by cases h
    have comp : ∀ Q' : VK, (∀ B, H B = none → Q' (.ref B) (upd H B (.lst vs))) → tLc (iList K (tOp (rIxT K) (tVar 0) (tC (.int 1)))) (gName 4) tYes (tOp (rIxT K) (tVar 4) (tC (.int 1))) [4] [some (.ref A), some (.ref a), some (.int o), none, none, none, none] H Q' := fun Q' q' => by
      refine at_tup 1 rfl hA0 rfl ⟨l, rfl, ⟨us, .inl (.inl hl0')⟩, ?_⟩
      refine lc_pure walk_list vs c1 (small1000 (by have := ok.2.2.1; omega)) (fun H2 s => .inl (.inl (s _ _ hl0'))) (fun j x H2 H' y Qk hj s2 hy e => ⟨hy.1, fun qk => ?_⟩) q'
      obtain ⟨p, nm, rfl, hp⟩ := c3 j x y hy.2 e
      exact at_tup 1 rfl (s2 _ _ (hG _ _ hp)) rfl qk
    refine asg1 (cal1 (comp _ fun B hB => ?_))
    have sB := same_new hB (.lst vs)
    refine ⟨_, rfl, _, rfl, G, B, vs, a, o, xs, ks, ds, rfl, hG.trans sB, upd_same, c2, ok.2.2.2.2, by omega, by have := c2.len.2; omega, I', fun rs hrs p L ws G1 H1 g1 hp hL Rs gl hl0 => ?_, fun m hm p H1 s1 hp => ifErrT rfl hp (q.2 m (by rw [hm]; rfl) p H1 (sB.trans s1) hp)⟩
    rw [hrs, onOks_v] at q
    obtain ⟨b1, b2⟩ := evs_bd I.ob xs ok.2.2.2.2 I.ok hrs
    have s1 := sB.trans g1.s
    have hA1 := s1 _ _ hA0
    have hl1 := s1 _ _ hl0'
    have lw := Rs.length
    have hB1 := g1.s _ _ (upd_same (H := H) (a := B) (o := .lst vs))
    have g0 : Gr G H G1 H1 := ⟨g1.g, s1, g1.i, fun b u e f => by
      have := g1.n b u e f
      exact sB.free this⟩
    refine ifErrF rfl hp (ifvF (val_tup 0 rfl hA1 rfl) (by decide +kernel) (ifvF (val_tup 0 rfl hA1 rfl) (by decide +kernel) (ifvF (val_tup 0 rfl hA1 rfl) (by decide +kernel) (setS fun T hT => ?_))))
    have sT := same_new hT (.dK [])
    refine at_tup 1 rfl (sT _ _ hA1) rfl (.inl ⟨_, us.length, rfl, .inl ⟨us, .inl (.inl (sT _ _ hl1)), rfl⟩, (us.length : Int), rfl, by omega, by have := ok.2.2.1; omega, ?_⟩)
    rw [Int.toNat_natCast]
    refine for_it walk_range (Pv := fun j σ H' => ∃ kvs x6, σ = [some (.ref A), some (.ref a), some (.int o), some (.ref p), none, some (.ref T), x6] ∧ H' = upd H1 T (.dK kvs) ∧ kvs.map (·.1) = (ns.take j).map Sum.inr ∧ kvs.map (·.2) = ws.take j)
      ⟨[], _, rfl, rfl, by rw [List.take_zero]; rfl, by rw [List.take_zero]; rfl⟩ (fun _ _ _ _ _ => trivial) (fun j x σ H2 H' hj pv y => ?_) fun σ H' pv => ?_
    · obtain ⟨kvs, x6, rfl, rfl, p2, p3⟩ := pv
      obtain ⟨rfl, rfl⟩ := y
      have zi : (0 : Int) + (j : Nat) = (j : Nat) := Int.zero_add _
      have sN := same_new hT (.dK kvs)
      have gw : ws[j]? = some (ws[j]'(by omega)) := List.getElem?_eq_getElem (by omega)
      have gu : us[j]? = some us[j] := List.getElem?_eq_getElem hj
      obtain ⟨pp, nm, u, e, eu, hpp, hn, he, re⟩ := R.get gu
      obtain ⟨n1, n2⟩ := put_new (H := H) (ws[j]'(by omega)) p2 ok.1 hn
      have lk := keys_len p2
      rw [List.length_take] at lk
      refine at_tup 0 rfl (sN _ _ hp) rfl ⟨_, rfl, L, ws, _, _, rfl, rfl, .inl (.inl (sN _ _ hL)), by rw [zi]; exact atI_nat gw, _, rfl, at_tup 1 rfl (sN _ _ hA1) rfl ⟨_, rfl, l, us, _, _, rfl, rfl, .inl (.inl (sN _ _ hl1)), by rw [zi]; exact atI_nat gu, ?_⟩⟩
      rw [eu]
      refine ⟨pp, [.str nm, u], 0, _, rfl, rfl, .inl (.inl (sN _ _ (s1 _ _ (hG _ _ hpp)))), rfl, T, _, rfl, .inl ⟨kvs, .inr nm, upd_same, rfl, small1000 (by have := ok.2.2.1; omega), rfl⟩, kvs ++ [(Sum.inr nm, ws[j]'(by omega))], _, rfl, ?_, n2, ?_⟩
      · rw [upd_upd, n1]
      · rw [List.map_append, p3, List.take_succ_eq_append_getElem (by omega)]
        rfl
    · obtain ⟨kvs, x6, rfl, rfl, p2, p3⟩ := pv
      rw [ln.2, List.take_length] at p2
      rw [show us.length = ws.length by omega, List.take_length] at p3
      have g2 := g0.new hT (.dK kvs)
      have gT := g0.i.free hT
      refine ⟨_, rfl, _, .ref T, .rcd ns rs, rfl, g2.i, .rcd (.inl upd_same) p2 (by rw [p3]; exact Rs.mono (rds_of (same_new gT _))), ⟨ok.1, by rw [b2]; exact ok.2.1, by have := ok.2.2.1; omega, ok.2.2.2.1, WDL_bd b1⟩, ?_, q.later g2⟩
      rw [Dat.dep]
      have := depL_bd b1
      omega
  | _ => exact px.elim
end
end Vk
set_option maxHeartbeats 4000000
/-! the law's own evaluator: gatherings, all of it -/
namespace Vk
open PySem PySem.Spec PyProof.Rows L2
theorem gather_row {H : Hp} {v : V} {x : Ex} {ks : List Str} {n : Nat} (px : isGather x) (R : ERep H v x) (ok : x.ok ks) (lv : x.lvl ≤ n + 1) : ∃ A g y row c vg vr vc, v = .ref A ∧ H A = some (.tup [.str "gather", vg, .str y, vr, vc]) ∧ ERep H vg g ∧ ERep H vr row ∧
    ((c = none ∧ vc = .non) ∨ ∃ b e, c = some e ∧ vc = .ref b ∧ ERep H (.ref b) e ∧ e.ok (putKs ks y) ∧ e.lvl ≤ n) ∧ y.length ≤ 100 ∧ row.ok ks ∧ g.ok (putKs ks y) ∧ row.lvl ≤ n ∧ g.lvl ≤ n ∧
    ∀ o ds, ev o x ks ds = onOk (ev o row ks ds) fun d => asLst d fun ms => onOks (goAll (fG o g y ks ds c) ms) fun vs => made (.lst vs) := gather_one px R ok lv
def GLPv (G H : Hp) (A a t L : Addr) (o : Int) (f : Dat → Except Str (Option Dat)) (ms : List Dat) (j : Nat) (σ : L2.St) (H' : Hp) : Prop :=
  ∃ acc pre G' x5 x6 x7 x8 x9, σ = [some (.ref A), some (.ref a), some (.int o), some (.ref t), some (.ref L), x5, x6, x7, x8, x9] ∧ H' L = some (.lst acc) ∧ Gr G H G' H' ∧ G' L = none ∧ Reps G' acc pre ∧ goAll f (ms.take j) = .ok pre ∧ acc.length ≤ j
section
variable {w : World} {K : PySem.W.Frag} {mg : Str → Option Value} {base : Heap} {n k : Nat}
abbrev s_L_gathered : Stmt := topS 100
theorem sc_L_gathered : FnScope ["_law_expression_here", "_law_environment_here", "_law_owner", "_law_row", "_law_values", "_law_member", "_law_inner", "_law_name", "_law_wanted", "_law_found"] ["_law_expression_here", "_law_environment_here", "_law_owner"] (defScope s_L_gathered) := ⟨rfl, rfl, rfl, by decide +kernel, rfl, by decide +kernel, by decide +kernel⟩
theorem cal_L_gathered (D : DefA K mg "_law_gathered" s_L_gathered) (hk : 43 ≤ k) (c__law_kind : Cal PP w K mg base CX0 1 "_law_kind" ["_law_value_here"] spKind) (c__law_boolean : Cal PP w K mg base CX0 2 "_law_boolean" ["_law_found"] spLBool) (c__law_made : Cal PP w K mg base CX0 25 "_law_made" ["_law_value_here"] spLMade)
    (c__law_eval : Cal PP w K mg base CX0 k "_law_eval" ["_law_expression_here", "_law_environment_here", "_law_owner"] (spLEv n)) : Cal PP w K mg base CX0 (k + 1) "_law_gathered" ["_law_expression_here", "_law_environment_here", "_law_owner"] (spLEvP isGather (n + 1)) := by
  have c__law_kind := c__law_kind.mono (show 1 ≤ k by omega)
  have c__law_boolean := c__law_boolean.mono (show 2 ≤ k by omega)
  have c__law_made := c__law_made.mono (show 25 ≤ k by omega)
  refine cal_mk D sc_L_gathered (fun _ _ _ _ _ _ us hl => match us, hl with | [_, _, _], _ => rfl) (fun vs H Q E h => ?_) (fun f cdv A outer s H vs Q E hr h => ?_)
  · obtain ⟨G, v, a, o, x, ks, ds, rfl, _⟩ := h
    rfl
  obtain ⟨G, v, a, o, x, ks, ds, rfl, hG, R, px, ok, lv, I, q⟩ := h
  have hu := hu_of hr
  obtain ⟨A, g, y, row, c, vg, vr, vc, rfl, hA, rg, rr, rc, ly, okr, okg, lvr, lvg, eq⟩ := gather_row px R ok lv
  rw [eq] at q
  have I' := I.less (Nat.le_succ n)
  refine ⟨_, (pss_cons (ps_set (i := 3) sc_L_gathered.nd rfl (Or.inl rfl) (pe_cal c__law_eval hr (by rfl) (pa_cons (pe_ix ix_tup (pv 0) pe_int (fun _ _ => rfl)) (pa_cons (pv 1) (pa_cons (pv 2) pa_nil)))))
    (pss_cons (ps_if (pt_cmpR op_notN (pe_ix ix_tup (pv 3) pe_int (fun _ _ => rfl)) pe_non (nomark _)) (pss_one (ps_ret (pv 3))) pss_nil)
    (pss_cons (ps_if (pt_cmpR op_ne (pe_cal c__law_kind hr (by rfl) (pa_cons (pe_ix ix_tup (pv 3) pe_int (fun _ _ => rfl)) pa_nil)) pe_str (nomark _)) (pss_one (ps_ret (pe_tup (pa_cons pe_non (pa_cons pe_str pa_nil))))) pss_nil)
    (pss_cons (ps_set (i := 4) sc_L_gathered.nd rfl (Or.inl rfl) (pe_lst pa_nil))
    (pss_cons (ps_for (passes_of rfl) rfl (pi_list (pe_ix ix_tup (pv 3) pe_int (fun _ _ => rfl))) (pg_name (i := 5) sc_L_gathered.nd rfl (Or.inl rfl)) (pss_cons (ps_set (i := 6) sc_L_gathered.nd rfl (Or.inl rfl) pe_dnewK)
    (pss_cons (ps_lockR (ps_for (passes_of rfl) rfl (pi_keys (pv 1)) (pg_name (i := 7) sc_L_gathered.nd rfl (Or.inl rfl)) (pss_one (ps_dput hu (pv 6) (pv 7) (pe_dget hu (pv 1) (pv 7) (fun _ _ => rfl)) rfl))))
    (pss_cons (ps_dput hu (pv 6) (pe_ix ix_tup (pv 0) pe_int (fun _ _ => rfl)) (pv 5) rfl)
    (pss_cons (ps_set (i := 8) sc_L_gathered.nd rfl (Or.inl rfl) (pe_tup (pa_cons pe_bl (pa_cons pe_non pa_nil))))
    (pss_cons (ps_if (pt_cmpR op_notN (pe_ix ix_tup (pv 0) pe_int (fun _ _ => rfl)) pe_non (nomark _)) (pss_one (ps_set (i := 8) sc_L_gathered.nd rfl (Or.inl rfl) (pe_cal c__law_boolean hr (by rfl) (pa_cons (pe_cal c__law_eval hr (by rfl) (pa_cons (pe_ix ix_tup (pv 0) pe_int (fun _ _ => rfl)) (pa_cons (pv 6) (pa_cons (pv 2) pa_nil)))) pa_nil)))) pss_nil)
    (pss_cons (ps_if (pt_cmpR op_notN (pe_ix ix_tup (pv 8) pe_int (fun _ _ => rfl)) pe_non (nomark _)) (pss_one (ps_ret (pv 8))) pss_nil)
    (pss_one (ps_if (pt_val (pe_ix ix_tup (pv 8) pe_int (fun _ _ => rfl))) (pss_cons (ps_set (i := 9) sc_L_gathered.nd rfl (Or.inl rfl) (pe_cal c__law_eval hr (by rfl) (pa_cons (pe_ix ix_tup (pv 0) pe_int (fun _ _ => rfl)) (pa_cons (pv 6) (pa_cons (pv 2) pa_nil)))))
    (pss_cons (ps_if (pt_cmpR op_notN (pe_ix ix_tup (pv 9) pe_int (fun _ _ => rfl)) pe_non (nomark _)) (pss_one (ps_ret (pv 9))) pss_nil)
    (pss_one (ps_expr (pe_bm PySem.F.plainAttrs_list PySem.F.slot_list_append PySem.F.type_list_append mt_append (pv 4) (pa_cons (pe_ix ix_tup (pv 9) pe_int (fun _ _ => rfl)) pa_nil)))))) pss_nil)))))))))
    (pss_one (ps_ret (pe_cal c__law_made hr (by rfl) (pa_cons (pv 4) pa_nil))))))))), ?_⟩
  refine setS (sub_lev 3 hG rfl hA rfl rfl rfl rr okr lvr I' (fun d1 e1 b1 v1 t1 G1 H1 g1 ht1 R1 => ?_) fun m e1 t1 H1 s1 ht1 => ifErrT rfl ht1 (q.2 m (by rw [e1]; rfl) t1 H1 s1 ht1))
  rw [e1, onOk_v] at q
  refine ifErrF rfl ht1 (if_pureN (p := !decide (d1.kd = .list)) (fun Q q => at_tup 0 rfl ht1 rfl ⟨v1, d1, rfl, R1.mono (rds_of g1.i), rfl, _, congrArg (fun b => V.bl (!b)) (kd_dec d1.kd .list), q⟩) (fun h => ?_) fun h => ?_)
  · exact q.bad (asLst_e (by simpa using h) _) g1.s
  cases R1 with
  | @lst r vs ms hr1 fm =>
    have q : LOut G H Q (onOks (goAll (fG o g y ks ds c) ms) fun vs => made (.lst vs)) := q
    have q := q.later g1
    have lm := fm.length
    have l2 := lst_len b1
    have I1 := I'.mono (rds_of g1.g)
    have hA1 := g1.g _ _ hA
    refine setS ⟨Nat.zero_le _, fun L hL => ?_⟩
    have sL := same_new hL (.lst [])
    have gL := g1.i.free hL
    refine at_tup 0 rfl (sL _ _ ht1) rfl ⟨r, rfl, ⟨vs, .inl (.inl (sL _ _ (g1.i _ _ hr1)))⟩, ?_⟩
    refine for_it walk_list (Pv := GLPv G1 H1 A a t1 L o (fG o g y ks ds c) ms) ⟨[], [], G1, _, _, _, _, _, rfl, upd_same, g1.i.gr sL, gL, .nil, by rw [List.take_zero]; rfl, Nat.le_refl _⟩ (fun _ _ _ _ ⟨_, _, _, _, _, _, _, _, _, _, gg, _⟩ => .inl (.inl (gg.s _ _ (g1.i _ _ hr1)))) (fun j x σ H2 H' hj pv yy => ?_) fun σ H' pv => ?_
    · obtain ⟨acc, pre, G', x5, x6, x7, x8, x9, rfl, p1, gg, p3, p4, p5, p6⟩ := pv
      obtain ⟨rfl, hx⟩ := yy
      obtain ⟨m, hm, fx⟩ := fm.get hx
      have bm : Bd m := b1.part (d := .lst ms) (List.mem_of_getElem? hm)
      have I3 := I1.mono (rds_of gg.g)
      have fx := fx.mono (rds_of gg.g)
      obtain ⟨kvs, hk1, hk2, hk3⟩ := I3.env
      have nd := keys_nodup hk2 I3.ok.nd
      have lk := keys_len hk2
      have rm := I3.room
      refine setS fun T hT => ?_
      have hT2 := (rds_of gg.i).dic _ _ hk1
      have hTa : T ≠ a := fun e => by
        rcases hT2 with z | ⟨_, z⟩
        · rw [← e, hT] at z; cases z
        · rw [← e, hT] at z; cases z
      have sT := same_new hT (.dK [])
      refine lockRS ((rds_of sT).dic _ _ hT2) fun ob Hl un D1 u hnx hrt => ⟨_, rfl, a, ob, rfl, .inl ⟨kvs, u.at1, ?_⟩⟩
      have hTl : Hl T = some (.dK []) := (u.off1 T hTa).trans upd_same
      have lkd : ∀ kv', (upd Hl T (.dK kv')) a = some (.frz ob (.dK kvs)) := fun kv' => by rw [upd_ne (fun e => hTa e.symm)]; exact u.at1
      refine for_it walk_keys (Pv := fun j' σ Hc => (∃ x7, σ = [some (.ref A), some (.ref a), some (.int o), some (.ref t1), some (.ref L), some x, some (.ref T), x7, x8, x9]) ∧ Hc = upd Hl T (.dK (kvs.take j')))
        ⟨⟨_, rfl⟩, funext fun b => ?_⟩ (fun _ _ Hc _ p => by rw [p.2]; exact lkd _) (fun j' x' σ Hc Hc' hj' p y' => ?_) fun σ Hc p => ?_
      · by_cases z : b = T
        · rw [z, upd_same, List.take_zero]; exact hTl
        · rw [upd_ne z]
      · obtain ⟨⟨x7, rfl⟩, rfl⟩ := p
        obtain ⟨rfl, kk, vv, hv, rfl⟩ := y'
        have hj2 := List.getElem?_eq_some_iff.mp hv
        have nw : valV (kvs.take j') kk = none := valV_fresh fun mm => by
          have h := nd
          rw [← List.take_append_drop j' kvs, List.map_append, List.nodup_append] at h
          exact h.2.2 _ mm kk (by rw [List.drop_eq_getElem_cons hj2.1, hj2.2]; exact List.mem_cons_self) rfl
        refine ⟨_, rfl, _, rfl, a, vv, rfl, .inl ⟨kvs, kk, .inr ⟨ob, lkd _⟩, rfl, (valV_at nd hv).symm⟩, _, rfl, _, rfl, T, _, rfl, .inl ⟨_, kk, upd_same, rfl, ?_, rfl⟩, ⟨_, rfl⟩, ?_⟩
        · rw [List.length_take]
          exact small1000 (by omega)
        · rw [upd_upd, putK_new _ nw, List.take_succ_eq_append_getElem hj2.1, hj2.2]
      · obtain ⟨⟨x7', rfl⟩, rfl⟩ := p
        rw [List.take_length]
        refine hnx _ _ (lkd _) ?_
        have eun : un (upd Hl T (.dK kvs)) = upd H' T (.dK kvs) := funext fun b => by
          obtain ⟨z1, z2⟩ := u.back (upd Hl T (.dK kvs)) (lkd _)
          by_cases za : b = a
          · rw [za, z1, upd_ne (fun e => hTa e.symm), upd_ne (fun e => hTa e.symm)]
          · rw [z2 b za]
            by_cases zt : b = T
            · rw [zt, upd_same, upd_same]
            · rw [upd_ne zt, upd_ne zt, u.off1 b za, upd_ne zt]
        rw [eun]
        obtain ⟨h1, h2⟩ := put_rep fx (y := y) I3.ok.nd hk2 hk3
        have hAt := (same_new hT (.dK kvs)) _ _ (gg.i _ _ (gg.g _ _ hA1))
        refine dputS ⟨_, rfl, _, rfl, at_tup 2 rfl hAt rfl ⟨T, _, rfl, .inl ⟨kvs, .inr y, upd_same, rfl, small1000 (by omega), rfl⟩, ?_⟩⟩
        rw [upd_upd]
        have g3 := gg.new hT (.dK (putK kvs (Sum.inr y) x))
        have gT := gg.i.free hT
        have s3 := same_new hT (.dK (putK kvs (Sum.inr y) x))
        have p1' := s3 _ _ p1
        have p3' : (upd G' T (.dK (putK kvs (Sum.inr y) x))) L = none := by
          rw [upd_ne (ne_of_none p1 hT)]
          exact p3
        have I4 : EvIn (upd G' T (.dK (putK kvs (Sum.inr y) x))) T (putKs ks y) (putDs ks ds y m) o n :=
          ⟨⟨_, .inl upd_same, h1, h2.mono (rds_of (same_new gT _))⟩, I3.ok.put (by omega) bm, by have := putKs_len ks y; have := I.room; omega, I3.ob⟩
        refine setS ⟨by show 2 ≤ sizeLine; decide, fun W hW => ?_⟩
        have g4 := g3.to (same_new hW (.tup [.bl true, .non]))
        have p1w := same_new hW (.tup [.bl true, .non]) _ _ p1'
        have hA4 := g4.g _ _ hA1
        have p4' := p4.mono (rds_of (same_new gT (.dK (putK kvs (Sum.inr y) x))))
        have app : ∀ (D' : Ends) (tw : Addr) H5 G5, (∀ σ H', GLPv G1 H1 A a t1 L o (fG o g y ks ds c) ms (j + 1) σ H' → D'.nx σ H') → (∀ v H', D'.rt v H' = Q v H') → Gr G1 H1 G5 H5 → Same (upd G' T (.dK (putK kvs (Sum.inr y) x))) G5 → G5 L = none → H5 L = some (.lst acc) → H5 tw = some (.tup [.bl true, .non]) → fG o g y ks ds c m = sm (ev o g (putKs ks y) (putDs ks ds y m)) →
            tSeq (tIfS (tTest (tOp (fun x y H Q => y = .non ∧ Q (.bl (!decide (x = .non))) H) (tOp (rIxT K) (tVar 8) (tC (.int 1))) (tC .non))) (tRet (tVar 8)) tNext)
              (tIfS (tB (tOp (rIxT K) (tVar 8) (tC (.int 0)))) (tSeq (tAsg (tCal (spLEv n) E0 (tCons (tOp (rIxT K) (tVar 0) (tC (.int 1))) (tCons (tVar 6) (tCons (tVar 2) tNil)))) (gName 9))
                (tSeq (tIfS (tTest (tOp (fun x y H Q => y = .non ∧ Q (.bl (!decide (x = .non))) H) (tOp (rIxT K) (tVar 9) (tC (.int 1))) (tC .non))) (tRet (tVar 9)) tNext)
                  (tDrop (tBM K "list" rAppend (tVar 4) (tCons (tOp (rIxT K) (tVar 9) (tC (.int 0))) tNil))))) tNext) D' [some (.ref A), some (.ref a), some (.int o), some (.ref t1), some (.ref L), some x, some (.ref T), x7', some (.ref tw), x9] H5 := fun D' tw H5 G5 nx rt g5 sg gl5 hl5 htw ef => by
          refine ifErrF rfl htw (at_tup 0 rfl htw rfl ⟨true, rfl, iteT (setS (sub_lev (i := 6) 1 g5.i rfl (g5.g _ _ hA1) rfl rfl rfl (rg.mono (rds_of (g1.g.trans g5.g))) okg lvg (I4.mono (rds_of sg)) (fun d6 e6 b6 v6 t6 G6 H6 g6 ht6 R6 => ?_) fun mm e6 t6 H6 s6 ht6 => ?_))⟩)
          · have gl6 := g6.out gl5 hl5
            have hl6 := g6.s _ _ hl5
            refine ifErrF rfl ht6 ⟨_, rfl, .inl ⟨rfl, acc, .inl (.inl hl6)⟩, at_tup 0 rfl ht6 rfl ⟨L, acc, v6, rfl, rfl, hl6, small2 (by omega), nx _ _ ?_⟩⟩
            exact ⟨acc ++ [v6], pre ++ [d6], G6, _, _, _, _, _, rfl, upd_same, (g5.trans g6).set gl6 hL _, gl6, ((p4'.mono (rds_of sg)).mono (rds_of g6.g)).app (.cons R6 .nil), go_step (o := some d6) p5 hm (by rw [ef, e6]; rfl), by rw [List.length_append]; show acc.length + 1 ≤ j + 1; omega⟩
          · refine ifErrT rfl ht6 ?_
            rw [rt]
            exact q.2 mm (by rw [go_err p5 hm (m := mm) (by rw [ef, e6]; rfl)]; rfl) t6 H6 (g5.s.trans s6) ht6
        rcases rc with ⟨rfl, rfl⟩ | ⟨b, e, rfl, rfl, re, oke, lve⟩
        · refine if_pureN (p := false) (fun Q q => at_tup 4 rfl (g4.i _ _ hA4) rfl ⟨rfl, _, rfl, q⟩) (fun h => by cases h) fun _ => ?_
          exact app _ W _ _ (fun _ _ h => h) (fun _ _ => rfl) g4 (.refl _) p3' p1w upd_same rfl
        · have ef : fG o g y ks ds (some e) m = onOk (ev o e (putKs ks y) (putDs ks ds y m)) fun d => asBl d fun t => if t = true then sm (ev o g (putKs ks y) (putDs ks ds y m)) else .ok none := rfl
          refine if_pureN (p := true) (fun Q q => at_tup 4 rfl (g4.i _ _ hA4) rfl ⟨rfl, true, congrArg V.bl (by rw [decide_eq_false (fun h => by cases h)]; rfl), q⟩) (fun _ => ?_) fun h => by cases h
          refine asgN (cal1 (sub_lev (i := 6) 4 g4.i rfl hA4 rfl rfl rfl (re.mono (rds_of (g1.g.trans g4.g))) oke lve I4 (fun d6 e6 b6 v6 t6 G6 H6 g6 ht6 R6 => ?_) fun mm e6 t6 H6 s6 ht6 => ?_))
          · rw [e6, onOk_v] at ef
            have gl6 := g6.out p3' p1w
            have hl6 := g6.s _ _ p1w
            refine ⟨t6, rfl, .inl ⟨v6, d6, ht6, R6.mono (rds_of g6.i), fun k2 => ?_, fun k2 p H7 s7 hp => ?_⟩⟩
            · cases R6 with
              | bl tt =>
                rw [asBl_v] at ef
                cases tt with
                | true =>
                  rw [if_pos rfl] at ef
                  exact app _ t6 _ _ (fun _ _ h => h) (fun _ _ => rfl) (g4.trans g6) g6.g gl6 hl6 ht6 ef
                | false =>
                  rw [if_neg Bool.false_ne_true] at ef
                  have st := go_step p5 hm ef
                  rw [Option.toList_none, List.append_nil] at st
                  exact ifErrF rfl ht6 (at_tup 0 rfl ht6 rfl ⟨false, rfl, iteF ⟨acc, pre, G6, _, _, _, _, _, rfl, hl6, g4.trans g6, gl6, p4'.mono (rds_of g6.g), st, by omega⟩⟩)
              | _ => cases k2
            · exact ifErrT rfl hp (q.2 _ (by rw [go_err p5 hm (m := "not true or false") (by rw [ef]; exact asBl_e k2 _)]; rfl) p H7 ((g4.trans g6).s.trans s7) hp)
          · exact ⟨t6, rfl, .inr ⟨mm, ht6, ifErrT rfl ht6 (q.2 mm (by rw [go_err p5 hm (m := mm) (by rw [ef, e6]; rfl)]; rfl) t6 H6 (g4.s.trans s6) ht6)⟩⟩
    · obtain ⟨acc, pre, G', x5, x6, x7, x8, x9, rfl, p1, gg, p3, p4, p5, p6⟩ := pv
      rw [lm, List.take_length] at p5
      rw [p5, onOks_v] at q
      have hm : ∀ m ∈ ms, Bd m := fun m hm => b1.part (d := .lst ms) hm
      obtain ⟨w1, w2⟩ := goAll_bd (fun m hmm d hd => by
        have okm := I.ok.put (y := y) (by omega) (hm m hmm)
        rcases rc with ⟨rfl, rfl⟩ | ⟨b, e, rfl, rfl, re, oke, lve⟩
        · obtain ⟨d', h3, h4⟩ := onOk_ok hd
          cases h4
          exact ev_bd I.ob g okg okm h3
        · obtain ⟨d0, h3, h4⟩ := onOk_ok hd
          obtain ⟨t, rfl, h7⟩ := asBl_ok h4
          split at h7
          · obtain ⟨d', h5, h6⟩ := onOk_ok h7
            cases h6
            exact ev_bd I.ob g okg okm h5
          · cases h7) p5
      have g9 := gg.add hL p3 p1
      refine ⟨_, rfl, _, .ref L, .lst pre, rfl, g9.i, .lst upd_same (p4.mono (rds_of (same_new p3 _))), ⟨by omega, WDL_bd w1⟩, ?_, q.later g9⟩
      rw [Dat.dep]
      have := depL_bd w1
      omega
  | _ => simp [Dat.kd] at h
end
end Vk
set_option maxHeartbeats 4000000
/-! the law's own evaluator: all of it -/
namespace Vk
open PySem PySem.Spec PyProof.Rows L2
section
variable {w : World} {K : PySem.W.Frag} {mg : Str → Option Value} {base : Heap} {n k : Nat}
abbrev s_L_eval : Stmt := topS 104
theorem sc_L_eval : FnScope ["_law_expression_here", "_law_environment_here", "_law_owner", "_law_word", "_law_when"] ["_law_expression_here", "_law_environment_here", "_law_owner"] (defScope s_L_eval) := ⟨rfl, rfl, rfl, by decide +kernel, rfl, by decide +kernel, by decide +kernel⟩
theorem cal_L_eval (D : DefA K mg "_law_eval" s_L_eval) (z : Nm mg) (hk : 43 ≤ k) (c__law_boolean : Cal PP w K mg base CX0 2 "_law_boolean" ["_law_found"] spLBool) (c__law_eval : Cal PP w K mg base CX0 k "_law_eval" ["_law_expression_here", "_law_environment_here", "_law_owner"] (spLEv n))
    (c__law_two : Cal PP w K mg base CX0 k "_law_two" ["_law_expression_here", "_law_environment_here", "_law_owner"] (spLEvP isBin (n + 1))) (c__law_one : Cal PP w K mg base CX0 k "_law_one" ["_law_expression_here", "_law_environment_here", "_law_owner"] (spLEvP isPart (n + 1)))
    (c__law_gathered : Cal PP w K mg base CX0 k "_law_gathered" ["_law_expression_here", "_law_environment_here", "_law_owner"] (spLEvP isGather (n + 1))) (c__law_written : Cal PP w K mg base CX0 k "_law_written" ["_law_expression_here", "_law_environment_here", "_law_owner"] (spLEvP isWr (n + 1))) :
    Cal PP w K mg base CX0 (k + 1) "_law_eval" ["_law_expression_here", "_law_environment_here", "_law_owner"] (spLEv (n + 1)) := by
  have c__law_boolean := c__law_boolean.mono (show 2 ≤ k by omega)
  refine cal_mk D sc_L_eval (fun _ _ _ _ _ _ us hl => match us, hl with | [_, _, _], _ => rfl) (fun vs H Q E h => ?_) (fun f cdv A outer s H vs Q E hr h => ?_)
  · obtain ⟨G, v, a, o, x, ks, ds, rfl, _⟩ := h
    rfl
  obtain ⟨G, v, a, o, x, ks, ds, rfl, hG, R, px, ok, lv, I, q⟩ := h
  have hu := hu_of hr
  refine ⟨_, (pss_cons (ps_set (i := 3) sc_L_eval.nd rfl (Or.inl rfl) (pe_ix ix_tup (pv 0) pe_int (fun _ _ => rfl)))
    (pss_cons (ps_if (pt_cmpR op_eq (pv 3) pe_str (nomark _)) (pss_one (ps_ret (pe_tup (pa_cons pe_non (pa_cons pe_non pa_nil))))) pss_nil)
    (pss_cons (ps_if (pt_cmpR op_in_seq (pv 3) (pe_tup (pa_cons pe_str (pa_cons pe_str pa_nil))) rfl) (pss_one (ps_ret (pe_tup (pa_cons (pe_cmpR op_eq (pv 3) pe_str (nomark _)) (pa_cons pe_non pa_nil))))) pss_nil)
    (pss_cons (ps_if (pt_cmpR op_in_seq (pv 3) (pe_tup (pa_cons pe_str (pa_cons pe_str pa_nil))) rfl) (pss_one (ps_ret (pe_tup (pa_cons (pe_ix ix_tup (pv 0) pe_int (fun _ _ => rfl)) (pa_cons pe_non pa_nil))))) pss_nil)
    (pss_cons (ps_if (pt_cmpR op_eq (pv 3) pe_str (nomark _)) (pss_one (ps_ret (pe_tup (pa_cons (pe_dget hu (pv 1) (pe_ix ix_tup (pv 0) pe_int (fun _ _ => rfl)) (fun _ _ => rfl)) (pa_cons pe_non pa_nil))))) pss_nil)
    (pss_cons (ps_if (pt_cmpR op_eq (pv 3) pe_str (nomark _)) (pss_one (ps_ret (pe_cal c__law_two hr (by rfl) (pa_cons (pv 0) (pa_cons (pv 1) (pa_cons (pv 2) pa_nil)))))) pss_nil)
    (pss_cons (ps_if (pt_cmpR op_eq (pv 3) pe_str (nomark _)) (pss_cons (ps_set (i := 4) sc_L_eval.nd rfl (Or.inl rfl) (pe_cal c__law_boolean hr (by rfl) (pa_cons (pe_cal c__law_eval hr (by rfl) (pa_cons (pe_ix ix_tup (pv 0) pe_int (fun _ _ => rfl)) (pa_cons (pv 1) (pa_cons (pv 2) pa_nil)))) pa_nil)))
    (pss_cons (ps_if (pt_cmpR op_notN (pe_ix ix_tup (pv 4) pe_int (fun _ _ => rfl)) pe_non (nomark _)) (pss_one (ps_ret (pv 4))) pss_nil)
    (pss_one (ps_ret (pe_cal c__law_eval hr (by rfl) (pa_cons (pe_ix ix_tup (pv 0) (pe_ix ix_tup (pe_tup (pa_cons pe_int (pa_cons pe_int pa_nil))) (pe_callTy call_int1 (by rfl) z.int (by decide +kernel) (pa_cons (pe_ix ix_tup (pv 4) pe_int (fun _ _ => rfl)) pa_nil)) (fun _ _ => rfl)) (fun _ _ => rfl)) (pa_cons (pv 1) (pa_cons (pv 2) pa_nil)))))))) pss_nil)
    (pss_cons (ps_if (pt_cmpR op_eq (pv 3) pe_str (nomark _)) (pss_one (ps_ret (pe_cal c__law_gathered hr (by rfl) (pa_cons (pv 0) (pa_cons (pv 1) (pa_cons (pv 2) pa_nil)))))) pss_nil)
    (pss_cons (ps_if (pt_cmpR op_in_seq (pv 3) (pe_tup (pa_cons pe_str (pa_cons pe_str (pa_cons pe_str (pa_cons pe_str pa_nil))))) rfl) (pss_one (ps_ret (pe_cal c__law_written hr (by rfl) (pa_cons (pv 0) (pa_cons (pv 1) (pa_cons (pv 2) pa_nil)))))) pss_nil)
    (pss_one (ps_ret (pe_cal c__law_one hr (by rfl) (pa_cons (pv 0) (pa_cons (pv 1) (pa_cons (pv 2) pa_nil))))))))))))))), ?_⟩
  have R0 := R
  have I' := I.less (Nat.le_succ n)
  cases R with
  | null hA =>
    rw [ev] at q
    exact setS (at_tup 0 rfl (hG _ _ hA) rfl (ifvT (val_var rfl) (by decide +kernel) (q.put rfl (hG.gr (.refl H)) .non)))
  | tru hA =>
    rw [ev] at q
    refine setS (at_tup 0 rfl (hG _ _ hA) rfl (ifvF (val_var rfl) (by decide +kernel) (if_tstN (tin2 "true" "false" (val_var rfl)) (fun _ H1 s1 => ⟨_, rfl, rfl, ?_⟩) fun h => absurd h (by decide +kernel))))
    have e : decide (V.str "true" = V.str "true") = true := by decide +kernel
    rw [e]
    exact q.put rfl (hG.gr s1) (.bl _)
  | fls hA =>
    rw [ev] at q
    refine setS (at_tup 0 rfl (hG _ _ hA) rfl (ifvF (val_var rfl) (by decide +kernel) (if_tstN (tin2 "true" "false" (val_var rfl)) (fun _ H1 s1 => ⟨_, rfl, rfl, ?_⟩) fun h => absurd h (by decide +kernel))))
    have e : decide (V.str "false" = V.str "true") = false := by decide +kernel
    rw [e]
    exact q.put rfl (hG.gr s1) (.bl _)
  | num hA =>
    rw [ev] at q
    exact setS (at_tup 0 rfl (hG _ _ hA) rfl (ifvF (val_var rfl) (by decide +kernel) (if_tstN (tin2 "true" "false" (val_var rfl)) (fun h => absurd h (by decide +kernel)) fun _ H1 s1 => if_tstN (tin2 "number" "text" (val_var rfl)) (fun _ H2 s2 => at_tup 1 rfl ((s1.trans s2) _ _ (hG _ _ hA)) rfl (q.put rfl (hG.gr (s1.trans s2)) (.int _))) fun h => absurd h (by decide +kernel))))
  | txt hA =>
    rw [ev] at q
    exact setS (at_tup 0 rfl (hG _ _ hA) rfl (ifvF (val_var rfl) (by decide +kernel) (if_tstN (tin2 "true" "false" (val_var rfl)) (fun h => absurd h (by decide +kernel)) fun _ H1 s1 => if_tstN (tin2 "number" "text" (val_var rfl)) (fun _ H2 s2 => at_tup 1 rfl ((s1.trans s2) _ _ (hG _ _ hA)) rfl (q.put rfl (hG.gr (s1.trans s2)) (.str _))) fun h => absurd h (by decide +kernel))))
  | @name A y hA =>
    rw [ev] at q
    rw [Ex.ok] at ok
    obtain ⟨kvs, h1, h2, h3⟩ := I.env
    rcases look_rep y h2 h3 with ⟨v, d, g1, g2, r, m⟩ | ⟨g1, g2⟩
    · rw [g2] at q
      exact setS (at_tup 0 rfl (hG _ _ hA) rfl (ifvF (val_var rfl) (by decide +kernel) (if_tstN (tin2 "true" "false" (val_var rfl)) (fun h => absurd h (by decide +kernel)) fun _ H1 s1 => if_tstN (tin2 "number" "text" (val_var rfl)) (fun h => absurd h (by decide +kernel)) fun _ H2 s2 => ifvT (val_var rfl) (by decide +kernel) ⟨_, rfl, at_tup 1 rfl ((s1.trans s2) _ _ (hG _ _ hA)) rfl ⟨a, v, rfl, .inl ⟨kvs, .inr y, (rds_of (hG.trans (s1.trans s2))).dic _ _ h1, rfl, g1.symm⟩, q.put rfl (hG.gr (s1.trans s2)) r⟩⟩)))
    · obtain ⟨d, hd⟩ := look_some I.ok.len ok
      rw [hd] at g2
      cases g2
  | bin hA r1 r2 =>
    exact setS (at_tup 0 rfl (hG _ _ hA) rfl (ifvF (val_var rfl) (by decide +kernel) (if_tstN (tin2 "true" "false" (val_var rfl)) (fun h => absurd h (by decide +kernel)) fun _ H1 s1 => if_tstN (tin2 "number" "text" (val_var rfl)) (fun h => absurd h (by decide +kernel)) fun _ H2 s2 => ifvF (val_var rfl) (by decide +kernel) (ifvT (val_var rfl) (by decide +kernel) ⟨_, rfl, _, rfl, _, rfl, G, _, a, o, _, ks, ds, rfl, hG.trans (s1.trans s2), R0, trivial, ok, lv, I, q.same hG (s1.trans s2)⟩))))
  | @choice A v u t x y z hA r1 r2 r3 =>
    rw [Ex.ok] at ok
    rw [Ex.lvl] at lv
    rw [ev] at q
    refine setS (at_tup 0 rfl (hG _ _ hA) rfl (ifvF (val_var rfl) (by decide +kernel) (if_tstN (tin2 "true" "false" (val_var rfl)) (fun h => absurd h (by decide +kernel)) fun _ H1 s1 => if_tstN (tin2 "number" "text" (val_var rfl)) (fun h => absurd h (by decide +kernel)) fun _ H2 s2 => ifvF (val_var rfl) (by decide +kernel) (ifvF (val_var rfl) (by decide +kernel) (ifvT (val_var rfl) (by decide +kernel) ?_)))))
    have hG2 := hG.trans (s1.trans s2)
    have s0 := s1.trans s2
    refine setS (cal1 (sub_lev 1 hG2 rfl hA rfl rfl rfl r1 ok.1 (by omega) I' (fun d1 e1 b1 v1 t1 G1 H3 g1 ht1 R1 => ?_) fun m e1 t1 H3 s3 ht1 => ⟨t1, rfl, .inr ⟨m, ht1, ifErrT rfl ht1 (q.2 m (by rw [e1]; rfl) t1 H3 (s0.trans s3) ht1)⟩⟩))
    rw [e1, onOk_v] at q
    have q := (q.same hG s0).later g1
    refine ⟨t1, rfl, .inl ⟨v1, d1, ht1, R1.mono (rds_of g1.i), fun k1 => ?_, fun k1 p H4 s4 hp => ifErrT rfl hp (q.2 _ (asBl_e k1 _) p H4 s4 hp)⟩⟩
    cases R1 with
    | bl b =>
      rw [asBl_v] at q
      refine ifErrF rfl ht1 ⟨_, rfl, by show 2 ≤ sizeLine; decide, fun W hW => at_tup 0 rfl (same_new hW _ _ _ ht1) rfl (.inr ⟨b, rfl, ?_⟩)⟩
      have sW := same_new hW (.tup [.int 3, .int 2])
      have hA2 := sW _ _ (g1.s _ _ (hG2 _ _ hA))
      have g2 := g1.i.trans sW
      have q := q.same g1.i sW
      cases b with
      | true =>
        rw [if_pos rfl] at q
        exact ⟨W, _, 1, _, rfl, rfl, .inl (.inl upd_same), rfl, A, _, 2, _, rfl, rfl, .inl (.inl hA2), rfl, _, rfl, _, rfl, G1, u, a, o, y, ks, ds, rfl, g2, r2.mono (rds_of g1.g), trivial, ok.2.1, by omega, I'.mono (rds_of g1.g), q⟩
      | false =>
        rw [if_neg Bool.false_ne_true] at q
        exact ⟨W, _, 0, _, rfl, rfl, .inl (.inl upd_same), rfl, A, _, 3, _, rfl, rfl, .inl (.inl hA2), rfl, _, rfl, _, rfl, G1, t, a, o, z, ks, ds, rfl, g2, r3.mono (rds_of g1.g), trivial, ok.2.2, by omega, I'.mono (rds_of g1.g), q⟩
    | _ => cases k1
  | gather hA r1 r2 =>
    exact setS (at_tup 0 rfl (hG _ _ hA) rfl (ifvF (val_var rfl) (by decide +kernel) (if_tstN (tin2 "true" "false" (val_var rfl)) (fun h => absurd h (by decide +kernel)) fun _ H1 s1 => if_tstN (tin2 "number" "text" (val_var rfl)) (fun h => absurd h (by decide +kernel)) fun _ H2 s2 => ifvF (val_var rfl) (by decide +kernel) (ifvF (val_var rfl) (by decide +kernel) (ifvF (val_var rfl) (by decide +kernel) (ifvT (val_var rfl) (by decide +kernel) ⟨_, rfl, _, rfl, _, rfl, G, _, a, o, _, ks, ds, rfl, hG.trans (s1.trans s2), R0, trivial, ok, lv, I, q.same hG (s1.trans s2)⟩))))))
  | gatherIf hA r1 r2 r3 =>
    exact setS (at_tup 0 rfl (hG _ _ hA) rfl (ifvF (val_var rfl) (by decide +kernel) (if_tstN (tin2 "true" "false" (val_var rfl)) (fun h => absurd h (by decide +kernel)) fun _ H1 s1 => if_tstN (tin2 "number" "text" (val_var rfl)) (fun h => absurd h (by decide +kernel)) fun _ H2 s2 => ifvF (val_var rfl) (by decide +kernel) (ifvF (val_var rfl) (by decide +kernel) (ifvF (val_var rfl) (by decide +kernel) (ifvT (val_var rfl) (by decide +kernel) ⟨_, rfl, _, rfl, _, rfl, G, _, a, o, _, ks, ds, rfl, hG.trans (s1.trans s2), R0, trivial, ok, lv, I, q.same hG (s1.trans s2)⟩))))))
  | fn hA hl r =>
    exact setS (at_tup 0 rfl (hG _ _ hA) rfl (ifvF (val_var rfl) (by decide +kernel) (if_tstN (tin2 "true" "false" (val_var rfl)) (fun h => absurd h (by decide +kernel)) fun _ H1 s1 => if_tstN (tin2 "number" "text" (val_var rfl)) (fun h => absurd h (by decide +kernel)) fun _ H2 s2 => ifvF (val_var rfl) (by decide +kernel) (ifvF (val_var rfl) (by decide +kernel) (ifvF (val_var rfl) (by decide +kernel) (ifvF (val_var rfl) (by decide +kernel) (if_tstN (tin4 "record" "list" "function" "act" (val_var rfl)) (fun _ H3 s3 => ⟨_, rfl, _, rfl, _, rfl, G, _, a, o, _, ks, ds, rfl, hG.trans ((s1.trans s2).trans s3), R0, trivial, ok, lv, I, q.same hG ((s1.trans s2).trans s3)⟩) fun h => absurd h (by decide +kernel))))))))
  | lst hA hl r =>
    exact setS (at_tup 0 rfl (hG _ _ hA) rfl (ifvF (val_var rfl) (by decide +kernel) (if_tstN (tin2 "true" "false" (val_var rfl)) (fun h => absurd h (by decide +kernel)) fun _ H1 s1 => if_tstN (tin2 "number" "text" (val_var rfl)) (fun h => absurd h (by decide +kernel)) fun _ H2 s2 => ifvF (val_var rfl) (by decide +kernel) (ifvF (val_var rfl) (by decide +kernel) (ifvF (val_var rfl) (by decide +kernel) (ifvF (val_var rfl) (by decide +kernel) (if_tstN (tin4 "record" "list" "function" "act" (val_var rfl)) (fun _ H3 s3 => ⟨_, rfl, _, rfl, _, rfl, G, _, a, o, _, ks, ds, rfl, hG.trans ((s1.trans s2).trans s3), R0, trivial, ok, lv, I, q.same hG ((s1.trans s2).trans s3)⟩) fun h => absurd h (by decide +kernel))))))))
  | rcd hA hl r =>
    exact setS (at_tup 0 rfl (hG _ _ hA) rfl (ifvF (val_var rfl) (by decide +kernel) (if_tstN (tin2 "true" "false" (val_var rfl)) (fun h => absurd h (by decide +kernel)) fun _ H1 s1 => if_tstN (tin2 "number" "text" (val_var rfl)) (fun h => absurd h (by decide +kernel)) fun _ H2 s2 => ifvF (val_var rfl) (by decide +kernel) (ifvF (val_var rfl) (by decide +kernel) (ifvF (val_var rfl) (by decide +kernel) (ifvF (val_var rfl) (by decide +kernel) (if_tstN (tin4 "record" "list" "function" "act" (val_var rfl)) (fun _ H3 s3 => ⟨_, rfl, _, rfl, _, rfl, G, _, a, o, _, ks, ds, rfl, hG.trans ((s1.trans s2).trans s3), R0, trivial, ok, lv, I, q.same hG ((s1.trans s2).trans s3)⟩) fun h => absurd h (by decide +kernel))))))))
  | act hA hl r =>
    exact setS (at_tup 0 rfl (hG _ _ hA) rfl (ifvF (val_var rfl) (by decide +kernel) (if_tstN (tin2 "true" "false" (val_var rfl)) (fun h => absurd h (by decide +kernel)) fun _ H1 s1 => if_tstN (tin2 "number" "text" (val_var rfl)) (fun h => absurd h (by decide +kernel)) fun _ H2 s2 => ifvF (val_var rfl) (by decide +kernel) (ifvF (val_var rfl) (by decide +kernel) (ifvF (val_var rfl) (by decide +kernel) (ifvF (val_var rfl) (by decide +kernel) (if_tstN (tin4 "record" "list" "function" "act" (val_var rfl)) (fun _ H3 s3 => ⟨_, rfl, _, rfl, _, rfl, G, _, a, o, _, ks, ds, rfl, hG.trans ((s1.trans s2).trans s3), R0, trivial, ok, lv, I, q.same hG ((s1.trans s2).trans s3)⟩) fun h => absurd h (by decide +kernel))))))))
  | neg hA r =>
    exact setS (at_tup 0 rfl (hG _ _ hA) rfl (ifvF (val_var rfl) (by decide +kernel) (if_tstN (tin2 "true" "false" (val_var rfl)) (fun h => absurd h (by decide +kernel)) fun _ H1 s1 => if_tstN (tin2 "number" "text" (val_var rfl)) (fun h => absurd h (by decide +kernel)) fun _ H2 s2 => ifvF (val_var rfl) (by decide +kernel) (ifvF (val_var rfl) (by decide +kernel) (ifvF (val_var rfl) (by decide +kernel) (ifvF (val_var rfl) (by decide +kernel) (if_tstN (tin4 "record" "list" "function" "act" (val_var rfl)) (fun h => absurd h (by decide +kernel)) fun _ H3 s3 => ⟨_, rfl, _, rfl, _, rfl, G, _, a, o, _, ks, ds, rfl, hG.trans ((s1.trans s2).trans s3), R0, trivial, ok, lv, I, q.same hG ((s1.trans s2).trans s3)⟩)))))))
  | not hA r =>
    exact setS (at_tup 0 rfl (hG _ _ hA) rfl (ifvF (val_var rfl) (by decide +kernel) (if_tstN (tin2 "true" "false" (val_var rfl)) (fun h => absurd h (by decide +kernel)) fun _ H1 s1 => if_tstN (tin2 "number" "text" (val_var rfl)) (fun h => absurd h (by decide +kernel)) fun _ H2 s2 => ifvF (val_var rfl) (by decide +kernel) (ifvF (val_var rfl) (by decide +kernel) (ifvF (val_var rfl) (by decide +kernel) (ifvF (val_var rfl) (by decide +kernel) (if_tstN (tin4 "record" "list" "function" "act" (val_var rfl)) (fun h => absurd h (by decide +kernel)) fun _ H3 s3 => ⟨_, rfl, _, rfl, _, rfl, G, _, a, o, _, ks, ds, rfl, hG.trans ((s1.trans s2).trans s3), R0, trivial, ok, lv, I, q.same hG ((s1.trans s2).trans s3)⟩)))))))
  | field hA r =>
    exact setS (at_tup 0 rfl (hG _ _ hA) rfl (ifvF (val_var rfl) (by decide +kernel) (if_tstN (tin2 "true" "false" (val_var rfl)) (fun h => absurd h (by decide +kernel)) fun _ H1 s1 => if_tstN (tin2 "number" "text" (val_var rfl)) (fun h => absurd h (by decide +kernel)) fun _ H2 s2 => ifvF (val_var rfl) (by decide +kernel) (ifvF (val_var rfl) (by decide +kernel) (ifvF (val_var rfl) (by decide +kernel) (ifvF (val_var rfl) (by decide +kernel) (if_tstN (tin4 "record" "list" "function" "act" (val_var rfl)) (fun h => absurd h (by decide +kernel)) fun _ H3 s3 => ⟨_, rfl, _, rfl, _, rfl, G, _, a, o, _, ks, ds, rfl, hG.trans ((s1.trans s2).trans s3), R0, trivial, ok, lv, I, q.same hG ((s1.trans s2).trans s3)⟩)))))))
  | item hA r r2 =>
    exact setS (at_tup 0 rfl (hG _ _ hA) rfl (ifvF (val_var rfl) (by decide +kernel) (if_tstN (tin2 "true" "false" (val_var rfl)) (fun h => absurd h (by decide +kernel)) fun _ H1 s1 => if_tstN (tin2 "number" "text" (val_var rfl)) (fun h => absurd h (by decide +kernel)) fun _ H2 s2 => ifvF (val_var rfl) (by decide +kernel) (ifvF (val_var rfl) (by decide +kernel) (ifvF (val_var rfl) (by decide +kernel) (ifvF (val_var rfl) (by decide +kernel) (if_tstN (tin4 "record" "list" "function" "act" (val_var rfl)) (fun h => absurd h (by decide +kernel)) fun _ H3 s3 => ⟨_, rfl, _, rfl, _, rfl, G, _, a, o, _, ks, ds, rfl, hG.trans ((s1.trans s2).trans s3), R0, trivial, ok, lv, I, q.same hG ((s1.trans s2).trans s3)⟩)))))))
/-- the law's own defs stand (its evaluator) -/
structure LDefs (K : PySem.W.Frag) (mg : Str → Option Value) : Prop where
  d_law_kind : DefA K mg "_law_kind" s_L_kind
  d_law_same : DefA K mg "_law_same" s_L_same
  d_law_parts : DefA K mg "_law_parts" s_L_parts
  d_law_depth : DefA K mg "_law_depth" s_L_depth
  d_law_size : DefA K mg "_law_size" s_L_size
  d_law_text_of : DefA K mg "_law_text_of" s_L_text_of
  d_law_made : DefA K mg "_law_made" s_L_made
  d_law_bounded : DefA K mg "_law_bounded" s_L_bounded
  d_law_joined : DefA K mg "_law_joined" s_L_joined
  d_law_quotient : DefA K mg "_law_quotient" s_L_quotient
  d_law_sum : DefA K mg "_law_sum" s_L_sum
  d_law_operate : DefA K mg "_law_operate" s_L_operate
  d_law_at : DefA K mg "_law_at" s_L_at
  d_law_field : DefA K mg "_law_field" s_L_field
  d_law_call : DefA K mg "_law_call" s_L_call
  d_law_all : DefA K mg "_law_all" s_L_all
  d_law_boolean : DefA K mg "_law_boolean" s_L_boolean
  d_law_gathered : DefA K mg "_law_gathered" s_L_gathered
  d_law_two : DefA K mg "_law_two" s_L_two
  d_law_one : DefA K mg "_law_one" s_L_one
  d_law_written : DefA K mg "_law_written" s_L_written
  d_law_eval : DefA K mg "_law_eval" s_L_eval
theorem law_eval (D : LDefs K mg) (z : Nm mg) : ∀ n : Nat, Cal PP w K mg base CX0 (50 + 4 * n) "_law_eval" ["_law_expression_here", "_law_environment_here", "_law_owner"] (spLEv n) := by
  have kd := cal_L_kind (w := w) (base := base) D.d_law_kind z
  have pa := cal_L_parts (w := w) (base := base) D.d_law_parts z kd
  have sm := cal_L_same_n (w := w) (base := base) D.d_law_same z kd 41
  have dp := cal_L_depth_n (w := w) (base := base) D.d_law_depth z kd pa 22
  have sz := cal_L_size_n (w := w) (base := base) D.d_law_size z kd pa 22
  have tx := cal_L_text_of (w := w) (base := base) D.d_law_text_of z kd
  have md := cal_L_made (w := w) (base := base) D.d_law_made z dp sz
  have bn := cal_L_bounded (w := w) (base := base) D.d_law_bounded
  have jn := cal_L_joined (w := w) (base := base) D.d_law_joined z
  have qu := cal_L_quotient (w := w) (base := base) D.d_law_quotient z
  have su := cal_L_sum (w := w) (base := base) D.d_law_sum z kd tx bn jn md
  have op := cal_L_operate (w := w) (base := base) D.d_law_operate z kd su sm bn qu
  have lat := cal_L_at (w := w) (base := base) D.d_law_at z kd
  have fi := cal_L_field (w := w) (base := base) D.d_law_field z kd
  have ca := cal_L_call (w := w) (base := base) D.d_law_call z kd tx lat md
  have bo := cal_L_boolean (w := w) (base := base) D.d_law_boolean kd
  intro n
  induction n with
  | zero => exact (Cal.never D.d_law_eval (fun f fd F => F.bindsN fun _ _ _ _ _ _ us hl => match us, hl with | [_, _, _], _ => rfl) fun vs H Q E ⟨G, v, a, o, x, ks, ds, _, _, _, _, _, h, _⟩ => by
      cases x <;> (rw [Ex.lvl] at h; omega)).mono (Nat.zero_le _)
  | succ n ih =>
    have al := cal_L_all (w := w) (base := base) D.d_law_all ih
    have e1 := cal_L_two (w := w) (base := base) D.d_law_two (by omega) bo op ih
    have e2 := cal_L_one (w := w) (base := base) D.d_law_one (by omega) kd bn fi lat ih
    have e3 := cal_L_gathered (w := w) (base := base) D.d_law_gathered (by omega) kd bo md ih
    have e4 := cal_L_written (w := w) (base := base) D.d_law_written z (by omega) md ca al
    exact (cal_L_eval (w := w) (base := base) (k := 50 + 4 * n + 2) D.d_law_eval z (by omega) bo (ih.mono (by omega)) (e1.mono (by omega)) (e2.mono (by omega)) (e3.mono (by omega)) e4).mono (by omega)
end
end Vk
set_option maxHeartbeats 4000000
/-! the law draws: digits, texts, numbers, values -/
namespace Vk
open PySem PySem.Spec PyProof.Rows L2
/-- a list of one number, not below 0 -/
def St (S : Addr) (H : Hp) : Prop := ∃ n : Int, 0 ≤ n ∧ H S = some (.lst [.int n])
/-- the heap grows, but at S -/
structure Ch (S : Addr) (H H' : Hp) : Prop where
  st : St S H'
  off : ∀ b o, b ≠ S → H b = some o → H' b = some o
theorem Ch.trans {S : Addr} {H H1 H2 : Hp} (a : Ch S H H1) (b : Ch S H1 H2) : Ch S H H2 := ⟨b.st, fun c o n e => b.off c o n (a.off c o n e)⟩
theorem Ch.refl {S : Addr} {H : Hp} (h : St S H) : Ch S H H := ⟨h, fun _ _ _ e => e⟩
theorem Ch.more {S : Addr} {H H1 H2 : Hp} (a : Ch S H H1) (s : Same H1 H2) : Ch S H H2 := ⟨let ⟨n, h, e⟩ := a.st; ⟨n, h, s _ _ e⟩, fun c o n e => s _ _ (a.off c o n e)⟩
theorem St.same {S : Addr} {H H1 : Hp} (a : St S H) (s : Same H H1) : St S H1 := let ⟨n, h, e⟩ := a; ⟨n, h, s _ _ e⟩
theorem St.some {S : Addr} {H : Hp} (a : St S H) : ∃ o, H S = Option.some o := let ⟨_, _, e⟩ := a; ⟨_, e⟩
theorem Ch.free {S : Addr} {H H1 : Hp} (c : Ch S H H1) (h : St S H) {b : Addr} (e : H1 b = none) : H b = none := by
  cases q : H b with
  | none => rfl
  | some o =>
    by_cases z : b = S
    · obtain ⟨n, _, e2⟩ := c.st
      rw [z, e2] at e
      cases e
    · rw [c.off b o z q] at e
      cases e
/-- what is new -/
def nw (H H' : Hp) : Hp := fun b => if H b = none then H' b else none
theorem nw_at {H H' : Hp} {b : Addr} (h : H b = none) : nw H H' b = H' b := if_pos h
theorem nw_out {H H' : Hp} {b : Addr} {o : HO} (h : H b = some o) : nw H H' b = none := if_neg (by rw [h]; exact fun z => by cases z)
theorem nw_some {H H' : Hp} {b : Addr} {o : HO} (h : nw H H' b = some o) : H b = none ∧ H' b = some o := by
  unfold nw at h
  split at h
  · rename_i z
    exact ⟨z, h⟩
  · cases h
theorem nw_in (H H' : Hp) : Same (nw H H') H' := fun b o e => (nw_some e).2
theorem nw_ch {S : Addr} {H H1 H2 : Hp} (h : St S H) (c : Ch S H1 H2) : Same (nw H H1) (nw H H2) := fun b o e => by
  obtain ⟨e1, e2⟩ := nw_some e
  rw [nw_at e1]
  exact c.off b o (fun z => by obtain ⟨u, q⟩ := h.some; rw [z, q] at e1; cases e1) e2
theorem nw_same {H H1 H2 : Hp} (s : Same H1 H2) : Same (nw H H1) (nw H H2) := fun b o e => by
  obtain ⟨e1, e2⟩ := nw_some e
  rw [nw_at e1]
  exact s b o e2
theorem nw_old {S : Addr} {H H1 H2 : Hp} (h : St S H) (c : Ch S H H1) : Same (nw H1 H2) (nw H H2) := fun b o e => by
  obtain ⟨e1, e2⟩ := nw_some e
  rw [nw_at (c.free h e1)]
  exact e2
section
variable {w : World} {K : PySem.W.Frag} {mg : Str → Option Value} {base : Heap} {n k : Nat}
def spDigit : Sp := fun vs H Q _ => ∃ S m, vs = [.ref S, .int m] ∧ St S H ∧ 0 < m ∧ m < 1073741824 ∧ ∀ i H', 0 ≤ i → i < m → Ch S H H' → (∀ b, b ≠ S → H' b = H b) → Q (.int i) H'
abbrev s_L_digit : Stmt := topS 69
theorem sc_L_digit : FnScope ["_law_state", "_law_many_here", "_law_digit_here"] ["_law_state", "_law_many_here"] (defScope s_L_digit) := ⟨rfl, rfl, rfl, by decide +kernel, rfl, by decide +kernel, by decide +kernel⟩
theorem cal_L_digit (D : DefA K mg "_law_digit" s_L_digit) (z : Nm mg) : Cal PP w K mg base CX0 1 "_law_digit" ["_law_state", "_law_many_here"] spDigit := by
  refine cal_mk D sc_L_digit (fun _ _ _ _ _ _ us hl => match us, hl with | [_, _], _ => rfl) (fun vs H Q E h => ?_) (fun f cdv A outer s H vs Q E hr h => ?_)
  · obtain ⟨S, m, rfl, _⟩ := h
    rfl
  obtain ⟨S, m, rfl, ⟨n, hn, hS⟩, h0, h1, q⟩ := h
  refine ⟨_, (pss_cons (ps_set (i := 2) sc_L_digit.nd rfl (Or.inl rfl) (pe_op op_mod (pe_callTy call_int1 (by rfl) z.int (by decide +kernel) (pa_cons (pe_ix ix_list (pv 0) pe_int (fun _ _ => rfl)) pa_nil)) (pv 1)))
    (pss_cons (ps_asg (pe_op op_fdivW (pe_ix ix_list (pv 0) pe_int (fun _ _ => rfl)) (pv 1)) (pg_sub (pv 0) pe_int set_list))
    (pss_one (ps_ret (pv 2))))), ?_⟩
  refine setS (at_list 0 rfl hS rfl (.inl ⟨n, rfl, ⟨_, rfl, n, m, rfl, rfl, h0, ?_⟩⟩))
  refine asgS (at_list 0 rfl hS rfl ⟨_, rfl, n, m, rfl, rfl, ⟨h0, ?_⟩, ⟨_, rfl, S, _, 0, 0, rfl, rfl, hS, rfl, ⟨_, rfl, ?_⟩⟩⟩)
  · have hm : m.natAbs ≠ 0 := by omega
    have p30 : (2 : Nat) ^ 30 = 1073741824 := by decide
    exact Nat.lt_trans ((Nat.log2_lt (k := 30) hm).mpr (by rw [p30]; omega)) (by decide)
  · exact q _ _ (Int.emod_nonneg _ (by omega)) (Int.emod_lt_of_pos _ h0) ⟨⟨n / m, Int.ediv_nonneg hn (by omega), upd_same⟩, fun b o nb e => by rw [upd_ne nb]; exact e⟩ fun b nb => upd_ne nb
/-- a digit -/
theorem dig {σ : L2.St} {H : Hp} {S : Addr} {Q : VK} {E : XK} {te : TE} {i : Nat} {m : Int} (h1 : σ[i]? = some (some (.ref S))) (h2 : te = tC (.int m)) (st : St S H) (h0 : 0 < m) (hm : m < 1073741824) (q : ∀ i H', 0 ≤ i → i < m → Ch S H H' → (∀ b, b ≠ S → H' b = H b) → Q (.int i) H') : tCal spDigit E (tCons (tVar i) (tCons te tNil)) σ H Q := by
  subst h2
  exact ⟨_, h1, S, m, rfl, st, h0, hm, q⟩
/-- its signs are low -/
def Low (x : Str) : Prop := (x.cps.all fun c => decide (c < 128)) = true
theorem Low.one {x : Str} (h : Low x) {c : Nat} (hc : c < 128) : Low (x ++ (⟨#[c]⟩ : Str)) := by
  show ((x.cps ++ #[c]).all fun c => decide (c < 128)) = true
  rw [Array.all_append, h]
  simpa using hc
instance (x : Str) : Decidable (Low x) := inferInstanceAs (Decidable (_ = true))
def spDText : Sp := fun vs H Q _ => ∃ S, vs = [.ref S] ∧ St S H ∧ ∀ x H', x.length ≤ 5 ∧ Low x → Ch S H H' → Q (.str x) H'
theorem len_one (x : Str) (c : Nat) : (x ++ (⟨#[c]⟩ : Str)).length = x.length + 1 := Str.length_append x ⟨#[c]⟩
abbrev s_L_text : Stmt := topS 70
theorem sc_L_text : FnScope ["_law_state", "_law_many_here", "_law_text_here", "_law_k"] ["_law_state"] (defScope s_L_text) := ⟨rfl, rfl, rfl, by decide +kernel, rfl, by decide +kernel, by decide +kernel⟩
theorem cal_L_text (D : DefA K mg "_law_text" s_L_text) (z : Nm mg) (c__law_digit : Cal PP w K mg base CX0 1 "_law_digit" ["_law_state", "_law_many_here"] spDigit) : Cal PP w K mg base CX0 2 "_law_text" ["_law_state"] spDText := by
  refine cal_mk D sc_L_text (fun _ _ _ _ _ _ us hl => match us, hl with | [_], _ => rfl) (fun vs H Q E h => ?_) (fun f cdv A outer s H vs Q E hr h => ?_)
  · obtain ⟨S, rfl, _⟩ := h
    rfl
  obtain ⟨S, rfl, st, q⟩ := h
  refine ⟨_, (pss_cons (ps_set (i := 1) sc_L_text.nd rfl (Or.inl rfl) (pe_ix ix_tup (pe_tup (pa_cons pe_int (pa_cons pe_int (pa_cons pe_int (pa_cons pe_int (pa_cons pe_int (pa_cons pe_int (pa_cons pe_int (pa_cons pe_int pa_nil))))))))) (pe_cal c__law_digit hr (by rfl) (pa_cons (pv 0) (pa_cons pe_int pa_nil))) (fun _ _ => rfl)))
    (pss_cons (ps_set (i := 2) sc_L_text.nd rfl (Or.inl rfl) pe_str)
    (pss_cons (ps_for (passes_of rfl) rfl (pi_range1 (by rfl) z.range (pa_cons (pv 1) pa_nil)) (pg_name (i := 3) sc_L_text.nd rfl (Or.inl rfl)) (pss_one (ps_set (i := 2) sc_L_text.nd rfl (Or.inl rfl) (pe_op op_add_str (pv 2) (pe_ix ix_str pe_str (pe_cal c__law_digit hr (by rfl) (pa_cons (pv 0) (pa_cons pe_int pa_nil))) (fun _ _ => rfl))))))
    (pss_one (ps_ret (pv 2)))))), ?_⟩
  refine setS ⟨by show 8 ≤ sizeLine; decide, fun T hT => dig rfl rfl (st.same (same_new hT _)) (by decide) (by decide) fun i H1 i0 i1 c1 of1 => ?_⟩
  have nTS : T ≠ S := fun e => by obtain ⟨u, e2⟩ := st.some; rw [← e, hT] at e2; cases e2
  have hT1 : H1 T = some (.tup [.int 0, .int 1, .int 1, .int 2, .int 3, .int 5, .int 2, .int 1]) := (of1 T nTS).trans upd_same
  have c0 : Ch S H H1 := (Ch.refl st).more (same_new hT (.tup [.int 0, .int 1, .int 1, .int 2, .int 3, .int 5, .int 2, .int 1])) |>.trans c1
  have ex : ∃ (j : Nat) (m : Int), i = (j : Nat) ∧ ([V.int 0, .int 1, .int 1, .int 2, .int 3, .int 5, .int 2, .int 1] : List V)[j]? = some (.int m) ∧ 0 ≤ m ∧ m ≤ 5 := by
    have : i = 0 ∨ i = 1 ∨ i = 2 ∨ i = 3 ∨ i = 4 ∨ i = 5 ∨ i = 6 ∨ i = 7 := by omega
    rcases this with e | e | e | e | e | e | e | e
    · exact ⟨0, 0, e, rfl, by decide, by decide⟩
    · exact ⟨1, 1, e, rfl, by decide, by decide⟩
    · exact ⟨2, 1, e, rfl, by decide, by decide⟩
    · exact ⟨3, 2, e, rfl, by decide, by decide⟩
    · exact ⟨4, 3, e, rfl, by decide, by decide⟩
    · exact ⟨5, 5, e, rfl, by decide, by decide⟩
    · exact ⟨6, 2, e, rfl, by decide, by decide⟩
    · exact ⟨7, 1, e, rfl, by decide, by decide⟩
  obtain ⟨j, m, ei, ej, m0, m5⟩ := ex
  refine ⟨T, _, i, _, rfl, rfl, .inl (.inl hT1), by rw [ei]; exact atI_nat ej, setS ⟨_, rfl, m, rfl, by omega, by omega, ?_⟩⟩
  refine for_it walk_range (Pv := fun jj σ H' => ∃ x x3, σ = [some (.ref S), some (.int m), some (.str x), x3] ∧ (x.length = jj ∧ Low x) ∧ Ch S H H') ⟨"", _, rfl, ⟨rfl, by decide +kernel⟩, c0⟩ (fun _ _ _ _ _ => trivial) (fun jj x σ H2 H' hj pv y => ?_) fun σ H' pv => ?_
  · obtain ⟨t, x3, rfl, ⟨lt, lw⟩, ch⟩ := pv
    obtain ⟨rfl, rfl⟩ := y
    refine ⟨_, rfl, dig rfl rfl ch.st (by decide) (by decide) fun i2 H3 i0 i1 c2 _ => ⟨_, i2, (("ab01-9 z,\n" : Str).cps.toList[i2.toNat]?).getD 0, rfl, rfl, by decide +kernel, ?_, t, _, rfl, rfl, ?_, t ++ (⟨#[(("ab01-9 z,\n" : Str).cps.toList[i2.toNat]?).getD 0]⟩ : Str), _, rfl, ?_, ch.trans c2⟩⟩
    · have : i2 = 0 ∨ i2 = 1 ∨ i2 = 2 ∨ i2 = 3 ∨ i2 = 4 ∨ i2 = 5 ∨ i2 = 6 ∨ i2 = 7 ∨ i2 = 8 ∨ i2 = 9 := by omega
      rcases this with e | e | e | e | e | e | e | e | e | e <;> subst e <;> decide +kernel
    · show t.length + 1 ≤ sizeLine
      exact Nat.le_trans (show t.length + 1 ≤ 6 by omega) (by decide)
    · refine ⟨by rw [len_one, lt], lw.one ?_⟩
      have : i2 = 0 ∨ i2 = 1 ∨ i2 = 2 ∨ i2 = 3 ∨ i2 = 4 ∨ i2 = 5 ∨ i2 = 6 ∨ i2 = 7 ∨ i2 = 8 ∨ i2 = 9 := by omega
      rcases this with e | e | e | e | e | e | e | e | e | e <;> subst e <;> decide +kernel
  · obtain ⟨t, x3, rfl, ⟨lt, lw⟩, ch⟩ := pv
    exact ⟨_, rfl, q t H' ⟨by omega, lw⟩ ch⟩
theorem txtL {σ : L2.St} {H : Hp} {S : Addr} {Q : VK} {E : XK} {i : Nat} (h1 : σ[i]? = some (some (.ref S))) (st : St S H) (q : ∀ x H', x.length ≤ 5 ∧ Low x → Ch S H H' → Q (.str x) H') : tCal spDText E (tCons (tVar i) tNil) σ H Q := ⟨_, h1, S, rfl, st, q⟩
def spNum : Sp := fun vs H Q _ => ∃ S, vs = [.ref S] ∧ St S H ∧ ∀ i H', (-big30 ≤ i ∧ i ≤ big30) → Ch S H H' → Q (.int i) H'
theorem numL {σ : L2.St} {H : Hp} {S : Addr} {Q : VK} {E : XK} {i : Nat} (h1 : σ[i]? = some (some (.ref S))) (st : St S H) (q : ∀ i H', (-big30 ≤ i ∧ i ≤ big30) → Ch S H H' → Q (.int i) H') : tCal spNum E (tCons (tVar i) tNil) σ H Q := ⟨_, h1, S, rfl, st, q⟩
abbrev s_L_number : Stmt := topS 71
theorem sc_L_number : FnScope ["_law_state", "_law_choice", "_law_great"] ["_law_state"] (defScope s_L_number) := ⟨rfl, rfl, rfl, by decide +kernel, rfl, by decide +kernel, by decide +kernel⟩
theorem cal_L_number (D : DefA K mg "_law_number" s_L_number) (c__law_digit : Cal PP w K mg base CX0 1 "_law_digit" ["_law_state", "_law_many_here"] spDigit) : Cal PP w K mg base CX0 2 "_law_number" ["_law_state"] spNum := by
  refine cal_mk D sc_L_number (fun _ _ _ _ _ _ us hl => match us, hl with | [_], _ => rfl) (fun vs H Q E h => ?_) (fun f cdv A outer s H vs Q E hr h => ?_)
  · obtain ⟨S, rfl, _⟩ := h
    rfl
  obtain ⟨S, rfl, st, q⟩ := h
  refine ⟨_, (pss_cons (ps_set (i := 1) sc_L_number.nd rfl (Or.inl rfl) (pe_cal c__law_digit hr (by rfl) (pa_cons (pv 0) (pa_cons pe_int pa_nil))))
    (pss_cons (ps_if (pt_cmpR op_lt (pv 1) pe_int (nomark _)) (pss_one (ps_ret (pe_op op_sub (pe_cal c__law_digit hr (by rfl) (pa_cons (pv 0) (pa_cons pe_int pa_nil))) pe_int))) pss_nil)
    (pss_cons (ps_if (pt_cmpR op_eq (pv 1) pe_int (nomark _)) (pss_one (ps_ret (pe_op op_sub (pe_cal c__law_digit hr (by rfl) (pa_cons (pv 0) (pa_cons pe_int pa_nil))) pe_int))) pss_nil)
    (pss_cons (ps_set (i := 2) sc_L_number.nd rfl (Or.inl rfl) (pe_op op_sub (pe_op op_pow pe_int pe_int) (pe_cal c__law_digit hr (by rfl) (pa_cons (pv 0) (pa_cons pe_int pa_nil)))))
    (pss_cons (ps_if (pt_cmpR op_eq (pv 1) pe_int (nomark _)) (pss_one (ps_ret (pv 2))) pss_nil)
    (pss_one (ps_ret (pe_op op_sub pe_int (pv 2))))))))), ?_⟩
  have hb : big30 = 1000000000000000000000000000000 := rfl
  refine setS (dig rfl rfl st (by decide) (by decide) fun i H1 i0 i1 c1 _ => ?_)
  refine if_pureN (p := decide (i < 5)) (fun Q q => ⟨_, rfl, _, _, rfl, rfl, _, rfl, q⟩) (fun h => ?_) fun h => if_pureN (p := i == 5) (fun Q q => ⟨_, rfl, rfl, _, congrArg V.bl dec_int, q⟩) (fun h2 => ?_) fun h2 => ?_
  · exact dig rfl rfl c1.st (by decide) (by decide) fun i2 H2 j0 j1 c2 _ => ⟨_, _, rfl, rfl, q _ _ (by rw [hb]; omega) (c1.trans c2)⟩
  · exact dig rfl rfl c1.st (by decide) (by decide) fun i2 H2 j0 j1 c2 _ => ⟨_, _, rfl, rfl, q _ _ (by rw [hb]; omega) (c1.trans c2)⟩
  · refine setS ⟨_, _, rfl, rfl, cpow30, dig rfl rfl c1.st (by decide) (by decide) fun i2 H2 j0 j1 c2 _ => ⟨_, _, rfl, rfl, ?_⟩⟩
    have e1 : (10 : Int) ^ (30 : Int).toNat = big30 := pow30
    rw [e1]
    refine if_pureN (p := i == 6) (fun Q q => ⟨_, rfl, rfl, _, congrArg V.bl dec_int, q⟩) (fun h3 => ?_) fun h3 => ?_
    · exact ⟨_, rfl, q _ _ (by rw [hb]; omega) (c1.trans c2)⟩
    · exact ⟨_, rfl, _, _, rfl, rfl, q _ _ (by rw [hb]; omega) (c1.trans c2)⟩
end
end Vk
set_option maxHeartbeats 4000000
/-! the law draws: values -/
namespace Vk
open PySem PySem.Spec PyProof.Rows L2
/-- elements drawn one by one: each is new -/
theorem lc_ch {J : It} {n i : Nat} {G : Hp → Prop} {Y : Nat → Hp → V → Hp → Prop} {te : TE} {σ : L2.St} {H1 : Hp} {Q : VK} {S : Addr} (w : Walk J n G Y) (hS : St S H1) (El : Hp → V → Prop) (hm : ∀ G G' y, Same G G' → El G y → El G' y) (hz : n < sizeLine) (hG : ∀ H, Ch S H1 H → G H)
    (el : ∀ j x H H' (Qk : VK), j < n → Ch S H1 H → Y j H x H' → H' = H ∧ ((∀ y H4, Ch S H H4 → El (nw H H4) y → Qk y H4) → te ((wipe σ [i]).set i (some x)) H Qk))
    (fin : ∀ D acc H', acc.length = n → Ch S H1 H' → nw H1 H' D = some (.lst acc) → (∀ y ∈ acc, El (nw H1 H') y) → Q (.ref D) H') : lcGo J (gName i) tYes te [i] σ Q H1 := by
  intro D hD
  have nDS : D ≠ S := fun e => by obtain ⟨u, e2⟩ := hS.some; rw [← e, hD] at e2; cases e2
  refine lc_it w (Pv := fun j H => ∃ acc, H D = some (.lst acc) ∧ acc.length = j ∧ Ch S H1 H ∧ ∀ y ∈ acc, El (nw (upd H1 D (.lst [])) H) y) ⟨[], upd_same, rfl, (Ch.refl hS).more (same_new hD _), fun _ h => by cases h⟩ (fun j H _ ⟨_, _, _, c, _⟩ => hG H c) (fun j x H H' hj ⟨acc, p1, p2, p3, p4⟩ y => ?_) fun H ⟨acc, p1, p2, p3, p4⟩ => ?_
  · obtain ⟨rfl, q⟩ := el j x H H' (fun y H4 => ∃ acc, H4 D = some (.lst acc) ∧ acc.length < sizeLine ∧ ∃ acc', (upd H4 D (.lst (acc ++ [y]))) D = some (.lst acc') ∧ acc'.length = j + 1 ∧ Ch S H1 (upd H4 D (.lst (acc ++ [y]))) ∧ ∀ z ∈ acc', El (nw (upd H1 D (.lst [])) (upd H4 D (.lst (acc ++ [y])))) z) hj p3 y
    refine ⟨wipe_one σ i _, yes_ (q fun y H4 c4 e4 => ?_)⟩
    have c04 := p3.trans c4
    have nn : ∀ o', Same (nw (upd H1 D (.lst [])) H4) (nw (upd H1 D (.lst [])) (upd H4 D o')) := fun o' b o e => by
      obtain ⟨e1, e2⟩ := nw_some e
      have hb : b ≠ D := fun z => by rw [z, upd_same] at e1; cases e1
      rw [nw_at e1, upd_ne hb]
      exact e2
    have hSD : St S (upd H1 D (.lst [])) := hS.same (same_new hD _)
    refine ⟨acc, c4.off _ _ nDS p1, by omega, acc ++ [y], upd_same, by rw [List.length_append, p2]; rfl, ⟨?_, fun b o nb e => ?_⟩, fun z hz => ?_⟩
    · obtain ⟨n, h0, e⟩ := c04.st
      exact ⟨n, h0, by rw [upd_ne (fun z => nDS z.symm)]; exact e⟩
    · rw [upd_ne (ne_of_none e hD)]
      exact c04.off b o nb e
    · rcases List.mem_append.mp hz with hz | hz
      · exact hm _ _ _ (nn _) (hm _ _ _ (nw_ch hSD c4) (p4 z hz))
      · rw [List.mem_singleton.mp hz]
        refine hm _ _ _ (nn _) (hm _ _ _ ?_ e4)
        intro b o e
        obtain ⟨e1, e2⟩ := nw_some e
        have hb : b ≠ D := fun z => by rw [z, p1] at e1; cases e1
        have : (upd H1 D (.lst [])) b = none := by rw [upd_ne hb]; exact p3.free hS e1
        rw [nw_at this]
        exact e2
  · refine fin D acc H p2 p3 (by rw [nw_at hD]; exact p1) fun y hy => hm _ _ _ ?_ (p4 y hy)
    intro b o e
    obtain ⟨e1, e2⟩ := nw_some e
    have hb : b ≠ D := fun z => by rw [z, upd_same] at e1; cases e1
    rw [upd_ne hb] at e1
    rw [nw_at e1]
    exact e2
mutual
def Dat.Sg : Dat → Prop
  | .str x => Low x | .lst ds => SgL ds | .rcd _ ds => SgL ds | .act _ n ds => Low n ∧ SgL ds | .int _ => True | .non => True | .bl _ => True
def SgL : List Dat → Prop
  | [] => True | d :: r => d.Sg ∧ SgL r
end
theorem SgL.of : ∀ {ds : List Dat}, (∀ d ∈ ds, d.Sg) → SgL ds
  | [], _ => trivial
  | _ :: _, h => ⟨h _ List.mem_cons_self, SgL.of fun e he => h e (List.mem_cons_of_mem _ he)⟩
def sB : Nat → Nat
  | 0 => 6 | l + 1 => 7 + 3 * sB l
structure VB (l : Nat) (d : Dat) : Prop where
  dep : d.dep ≤ l + 1
  sz : d.sz ≤ sB l
  wd : d.WD
  sg : d.Sg
theorem sB_pos (l : Nat) : 6 ≤ sB l := by cases l <;> (unfold sB; omega)
theorem vb_small {l : Nat} {d : Dat} (h1 : d.dep = 1) (h2 : d.sz ≤ 6) (h3 : d.WD) (h4 : d.Sg) : VB l d := ⟨by omega, Nat.le_trans h2 (sB_pos l), h3, h4⟩
def ElV (l : Nat) (G : Hp) (v : V) : Prop := ∃ d, Rep G v d ∧ VB l d
theorem els {l : Nat} {G : Hp} : ∀ {vs : List V}, (∀ y ∈ vs, ElV l G y) → ∃ ds, Reps G vs ds ∧ ∀ d ∈ ds, VB l d
  | [], _ => ⟨[], .nil, fun _ h => by cases h⟩
  | v :: vs, h => by
    obtain ⟨d, r, b⟩ := h v List.mem_cons_self
    obtain ⟨ds, rs, bs⟩ := els fun y hy => h y (List.mem_cons_of_mem _ hy)
    exact ⟨d :: ds, .cons r rs, fun e he => (List.mem_cons.mp he).elim (fun q => q ▸ b) (bs e)⟩
theorem vbG {l : Nat} {ds : List Dat} (h : ∀ d ∈ ds, VB l d) : SgL ds := SgL.of fun d hd => (h d hd).sg
theorem vbL {l : Nat} : ∀ {ds : List Dat}, (∀ d ∈ ds, VB l d) → depL ds ≤ l + 1 ∧ szL ds ≤ ds.length * sB l ∧ WDL ds
  | [], _ => ⟨Nat.zero_le _, Nat.zero_le _, trivial⟩
  | d :: r, h => by
    have b := h d List.mem_cons_self
    obtain ⟨i1, i2, i3⟩ := vbL fun e he => h e (List.mem_cons_of_mem _ he)
    refine ⟨Nat.max_le.mpr ⟨b.dep, i1⟩, ?_, b.wd, i3⟩
    have := b.sz
    show d.sz + szL r ≤ (r.length + 1) * sB l
    rw [Nat.succ_mul]
    omega
def spVal (i : Nat) : Sp := fun vs H Q _ => ∃ S, ∃ l : Nat, vs = [.ref S, .int (l : Nat)] ∧ l + 1 = i ∧ St S H ∧ ∀ v d H', Ch S H H' → Rep (nw H H') v d → VB l d → Q v H'
theorem names4 {k : Str} (h : k ∈ [("x" : Str), "y", "zz", ""]) : KeyOk k ∧ k.length ≤ 2 := by
  rcases List.mem_cons.mp h with e | h
  · rw [e]; exact ⟨⟨by decide +kernel, by decide +kernel⟩, by decide +kernel⟩
  rcases List.mem_cons.mp h with e | h
  · rw [e]; exact ⟨⟨by decide +kernel, by decide +kernel⟩, by decide +kernel⟩
  rcases List.mem_cons.mp h with e | h
  · rw [e]; exact ⟨⟨by decide +kernel, by decide +kernel⟩, by decide +kernel⟩
  rcases List.mem_cons.mp h with e | h
  · rw [e]; exact ⟨⟨by decide +kernel, by decide +kernel⟩, by decide +kernel⟩
  · cases h
theorem lens2 : ∀ {ks : List Str}, (∀ k ∈ ks, k.length ≤ 2) → lens ks ≤ 2 * ks.length
  | [], _ => Nat.le_refl _
  | k :: ks, h => by
    have i := lens2 fun z hz => h z (List.mem_cons_of_mem _ hz)
    have := h k List.mem_cons_self
    unfold lens at i ⊢
    rw [List.map_cons, List.sum_cons, List.length_cons]
    omega
/-- a dict at D, drawn entry by entry -/
def VPv (H1 : Hp) (S D : Addr) (l m : Nat) (j : Nat) (σ : L2.St) (H : Hp) : Prop :=
  ∃ (kvs : List (Key × V)) (ks : List Str) (ds : List Dat) (x4 : Option V), σ = [some (.ref S), some (.int ((l + 1 : Nat) : Int)), some (.int 8), some (.int (m : Nat)), x4, some (.ref D), none, none] ∧ H D = some (.dK kvs) ∧ kvs.map (·.1) = ks.map Sum.inr ∧ ks.Nodup ∧ ks.length = ds.length ∧ ks.length ≤ j ∧ (∀ k ∈ ks, k ∈ [("x" : Str), "y", "zz", ""]) ∧
    Reps (nw (upd H1 D (.dK [])) H) (kvs.map (·.2)) ds ∧ (∀ d ∈ ds, VB l d) ∧ Ch S H1 H
section
variable {w : World} {K : PySem.W.Frag} {mg : Str → Option Value} {base : Heap} {n k : Nat}
abbrev s_L_value : Stmt := topS 72
theorem sc_L_value : FnScope ["_law_state", "_law_levels", "_law_kind_here", "_law_many_here", "_law_k", "_law_record", "_law_owner", "_law_name"] ["_law_state", "_law_levels"] (defScope s_L_value) := ⟨rfl, rfl, rfl, by decide +kernel, rfl, by decide +kernel, by decide +kernel⟩
theorem cal_L_value (D : DefA K mg "_law_value" s_L_value) (z : Nm mg) (hk : 2 ≤ k) (c__law_digit : Cal PP w K mg base CX0 1 "_law_digit" ["_law_state", "_law_many_here"] spDigit) (c__law_text : Cal PP w K mg base CX0 2 "_law_text" ["_law_state"] spDText) (c__law_number : Cal PP w K mg base CX0 2 "_law_number" ["_law_state"] spNum)
    (c__law_value : Cal PP w K mg base CX0 k "_law_value" ["_law_state", "_law_levels"] (spVal n)) : Cal PP w K mg base CX0 (k + 1) "_law_value" ["_law_state", "_law_levels"] (spVal (n + 1)) := by
  have c__law_digit := c__law_digit.mono (show 1 ≤ k by omega)
  have c__law_text := c__law_text.mono hk
  have c__law_number := c__law_number.mono hk
  refine cal_mk D sc_L_value (fun _ _ _ _ _ _ us hl => match us, hl with | [_, _], _ => rfl) (fun vs H Q E h => ?_) (fun f cdv A outer s H vs Q E hr h => ?_)
  · obtain ⟨S, l, rfl, _⟩ := h
    rfl
  obtain ⟨S, l, rfl, hl, st, q⟩ := h
  obtain rfl : l = n := by omega
  have hu := hu_of hr
  refine ⟨_, (pss_cons (ps_set (i := 2) sc_L_value.nd rfl (Or.inl rfl) (pe_cal c__law_digit hr (by rfl) (pa_cons (pv 0) (pa_cons pe_int pa_nil))))
    (pss_cons (ps_if (pt_cmpR op_eq (pv 2) pe_int (nomark _)) (pss_one (ps_ret pe_non)) pss_nil)
    (pss_cons (ps_if (pt_cmpR op_eq (pv 2) pe_int (nomark _)) (pss_one (ps_ret (pe_cmpR op_eq (pe_cal c__law_digit hr (by rfl) (pa_cons (pv 0) (pa_cons pe_int pa_nil))) pe_int (nomark _)))) pss_nil)
    (pss_cons (ps_if (pt_cmpR op_lt (pv 2) pe_int (nomark _)) (pss_one (ps_ret (pe_cal c__law_number hr (by rfl) (pa_cons (pv 0) pa_nil)))) pss_nil)
    (pss_cons (ps_if (PW.pt (pw_or (pt_cmpR op_lt (pv 2) pe_int (nomark _)) (pw_or1 (pt_cmpR op_eq (pv 1) pe_int (nomark _))))) (pss_one (ps_ret (pe_cal c__law_text hr (by rfl) (pa_cons (pv 0) pa_nil)))) pss_nil)
    (pss_cons (ps_set (i := 3) sc_L_value.nd rfl (Or.inl rfl) (pe_cal c__law_digit hr (by rfl) (pa_cons (pv 0) (pa_cons pe_int pa_nil))))
    (pss_cons (ps_if (pt_cmpR op_lt (pv 2) pe_int (nomark _)) (pss_one (ps_ret (pe_lc (own := [("_law_k", 4)]) (g := gName 4) (tt := tYes) rfl sc_L_value.nd (pi_range1 (by rfl) z.range (pa_cons (pv 3) pa_nil)) (blkOk_by (N := ["_law_state", "_law_levels", "_law_kind_here", "_law_many_here", "_law_k", "_law_record", "_law_owner", "_law_name"]) (sc := defScope s_L_value) (by decide +kernel)) (fun _ _ _ _ _ => pg_name (i := 4) sc_L_value.nd rfl (Or.inl rfl)) (fun _ _ _ _ _ => pts_nil) (fun _ _ _ _ _ => (pe_cal c__law_value hr (by rfl) (pa_cons (pv 0) (pa_cons (pe_op op_sub (pv 1) pe_int) pa_nil))))))) pss_nil)
    (pss_cons (ps_if (pt_cmpR op_eq (pv 2) pe_int (nomark _)) (pss_cons (ps_set (i := 5) sc_L_value.nd rfl (Or.inl rfl) pe_dnewK)
    (pss_cons (ps_for (passes_of rfl) rfl (pi_range1 (by rfl) z.range (pa_cons (pv 3) pa_nil)) (pg_name (i := 4) sc_L_value.nd rfl (Or.inl rfl)) (pss_one (ps_dput hu (pv 5) (pe_ix ix_tup (pe_tup (pa_cons pe_str (pa_cons pe_str (pa_cons pe_str (pa_cons pe_str pa_nil))))) (pe_cal c__law_digit hr (by rfl) (pa_cons (pv 0) (pa_cons pe_int pa_nil))) (fun _ _ => rfl)) (pe_cal c__law_value hr (by rfl) (pa_cons (pv 0) (pa_cons (pe_op op_sub (pv 1) pe_int) pa_nil))) rfl)))
    (pss_one (ps_ret (pv 5))))) pss_nil)
    (pss_cons (ps_set (i := 6) sc_L_value.nd rfl (Or.inl rfl) (pe_cal c__law_digit hr (by rfl) (pa_cons (pv 0) (pa_cons pe_int pa_nil))))
    (pss_cons (ps_set (i := 7) sc_L_value.nd rfl (Or.inl rfl) (pe_ix ix_tup (pe_tup (pa_cons pe_str (pa_cons pe_str pa_nil))) (pe_cal c__law_digit hr (by rfl) (pa_cons (pv 0) (pa_cons pe_int pa_nil))) (fun _ _ => rfl)))
    (pss_one (ps_ret (pe_tup (pa_cons pe_str (pa_cons (pv 6) (pa_cons (pv 7) (pa_cons (pe_lc (own := [("_law_k", 4)]) (g := gName 4) (tt := tYes) rfl sc_L_value.nd (pi_range1 (by rfl) z.range (pa_cons (pv 3) pa_nil)) (blkOk_by (N := ["_law_state", "_law_levels", "_law_kind_here", "_law_many_here", "_law_k", "_law_record", "_law_owner", "_law_name"]) (sc := defScope s_L_value) (by decide +kernel)) (fun _ _ _ _ _ => pg_name (i := 4) sc_L_value.nd rfl (Or.inl rfl)) (fun _ _ _ _ _ => pts_nil) (fun _ _ _ _ _ => (pe_cal c__law_value hr (by rfl) (pa_cons (pv 0) (pa_cons (pe_op op_sub (pv 1) pe_int) pa_nil))))) pa_nil))))))))))))))))), ?_⟩
  refine setS (dig rfl rfl st (by decide) (by decide) fun i H1 i0 i1 c1 _ => ?_)
  refine if_pureN (p := i == 0) (fun Q q => ⟨_, rfl, rfl, _, congrArg V.bl dec_int, q⟩) (fun h => q _ .non H1 c1 .non (vb_small (by rw [Dat.dep]) (by rw [Dat.sz]; decide) trivial trivial)) fun h1 => if_pureN (p := i == 1) (fun Q q => ⟨_, rfl, rfl, _, congrArg V.bl dec_int, q⟩) (fun h => ?_) fun h2 => if_pureN (p := decide (i < 4)) (fun Q q => ⟨_, rfl, _, _, rfl, rfl, _, rfl, q⟩) (fun h => ?_) fun h3 =>
    if_pureN (p := decide (i < 6) || ((l : Int) == 0)) (PureT.or (fun Q q => ⟨_, rfl, _, _, rfl, rfl, _, rfl, q⟩) fun _ Q q => ⟨_, rfl, rfl, _, congrArg V.bl dec_int, q⟩) (fun h => ?_) fun h4 => ?_
  · exact dig rfl rfl c1.st (by decide) (by decide) fun i2 H2 j0 j1 c2 _ => ⟨rfl, q _ (.bl _) H2 (c1.trans c2) (.bl _) (vb_small (by rw [Dat.dep]) (by rw [Dat.sz]; decide) trivial trivial)⟩
  · exact ⟨_, rfl, S, rfl, c1.st, fun i2 H2 hb c2 => q _ (.int i2) H2 (c1.trans c2) (.int _) (vb_small (by rw [Dat.dep]) (by rw [Dat.sz]; decide) hb trivial)⟩
  · exact ⟨_, rfl, S, rfl, c1.st, fun x H2 hb c2 => q _ (.str x) H2 (c1.trans c2) (.str _) (vb_small (by rw [Dat.dep]) (by rw [Dat.sz]; have := hb.1; omega) (by rw [Dat.WD]; have := hb.1; omega) hb.2)⟩
  have l0 : l ≠ 0 := fun e => by rw [e] at h4; simp at h4
  obtain ⟨l, rfl⟩ : ∃ l', l = l' + 1 := ⟨l - 1, by omega⟩
  have le : (((l + 1 : Nat) : Int) - 1) = ((l : Nat) : Int) := by omega
  have le' : [V.ref S, .int (((l + 1 : Nat) : Int) - 1)] = [V.ref S, .int ((l : Nat) : Int)] := by rw [le]
  have i6 : 6 ≤ i := by
    have : ¬ i < 6 := fun z => by rw [decide_eq_true z] at h4; cases h4
    omega
  refine setS (dig rfl rfl c1.st (by decide) (by decide) fun m0 H2 j0 j1 c2 _ => ?_)
  obtain ⟨m, rfl⟩ : ∃ m : Nat, m0 = (m : Nat) := ⟨m0.toNat, by omega⟩
  have c12 := c1.trans c2
  have comp : ∀ (x4 x5 x6 x7 : Option V) (H3 : Hp) (Q' : VK), Ch S H H3 → (∀ D ds H4, Ch S H3 H4 → ds.length = m → Rep (nw H3 H4) (.ref D) (.lst ds) → (∃ vs, nw H3 H4 D = some (.lst vs) ∧ Reps (nw H3 H4) vs ds) → (∀ d ∈ ds, VB l d) → Q' (.ref D) H4) →
      tLc (iRng1 (tCons (tVar 3) tNil)) (gName 4) tYes (tCal (spVal (l + 1)) E0 (tCons (tVar 0) (tCons (tOp (rI0 fun i j => .int (i - j)) (tVar 1) (tC (.int 1))) tNil))) [4] [some (.ref S), some (.int ((l + 1 : Nat) : Int)), some (.int i), some (.int (m : Nat)), x4, x5, x6, x7] H3 Q' := fun x4 x5 x6 x7 H3 Q' c3 q' => by
    refine ⟨_, rfl, (m : Int), rfl, by omega, by omega, ?_⟩
    rw [Int.toNat_natCast]
    refine lc_ch walk_range c3.st (ElV l) (fun G G' y s ⟨d, r, b⟩ => ⟨d, r.mono (rds_of s), b⟩) (small1000 (by omega)) (fun _ _ => trivial) (fun j x H4 H' Qk hj c4 hy => ⟨hy.1, fun qk => ?_⟩) fun D acc H4 la c4 hD hel => ?_
    · exact ⟨_, rfl, _, rfl, _, _, rfl, rfl, S, l, le', rfl, c4.st, fun v d H5 c5 r5 b5 => qk v H5 c5 ⟨d, r5, b5⟩⟩
    · obtain ⟨ds, rs, bs⟩ := els hel
      exact q' D ds H4 c4 (by rw [← rs.length]; exact la) (.lst hD rs) ⟨acc, hD, rs⟩ bs
  have stepv : ∀ {ds : List Dat}, ds.length = m → (∀ d ∈ ds, VB l d) → szL ds ≤ 3 * sB l := fun {ds} hl hb => by
    have := (vbL hb).2.1
    exact Nat.le_trans this (Nat.mul_le_mul_right _ (by omega))
  refine if_pureN (p := decide (i < 8)) (fun Q q => ⟨_, rfl, _, _, rfl, rfl, _, rfl, q⟩) (fun h => ?_) fun h5 => if_pureN (p := i == 8) (fun Q q => ⟨_, rfl, rfl, _, congrArg V.bl dec_int, q⟩) (fun h => ?_) fun h6 => ?_
  · refine comp _ _ _ _ H2 _ c12 fun D ds H4 c4 hl R _ bs => q _ (.lst ds) H4 (c12.trans c4) (R.mono (rds_of (nw_old st c12))) ⟨?_, ?_, ⟨by omega, (vbL bs).2.2⟩, vbG bs⟩
    · rw [Dat.dep]; have := (vbL bs).1; omega
    · rw [Dat.sz, sB]; have := stepv hl bs; omega
  · have i8 : i = 8 := by simpa using h
    subst i8
    refine setS fun D hD => ?_
    have hD0 : H D = none := c12.free st hD
    have nDS : D ≠ S := fun e => by obtain ⟨u, e2⟩ := c12.st.some; rw [← e, hD] at e2; cases e2
    refine ⟨_, rfl, (m : Int), rfl, by omega, by omega, ?_⟩
    rw [Int.toNat_natCast]
    have hSD : St S (upd H2 D (.dK [])) := c12.st.same (same_new hD _)
    refine for_it walk_range (Pv := VPv H2 S D l m) ⟨[], [], [], _, rfl, upd_same, rfl, List.nodup_nil, rfl, Nat.le_refl _, (fun _ h => by cases h), .nil, (fun _ h => by cases h), (Ch.refl c12.st).more (same_new hD _)⟩ (fun _ _ _ _ _ => trivial) (fun j x σ H3 H' hj pv y => ?_) fun σ H' pv => ?_
    · obtain ⟨kvs, ks, ds, x4, rfl, p1, p2, p3, p4, p5, p6, p7, p8, p9⟩ := pv
      obtain ⟨rfl, rfl⟩ := y
      refine ⟨_, rfl, _, rfl, _, _, rfl, rfl, S, l, le', rfl, p9.st, fun v d H4 c4 r4 b4 => ⟨_, rfl, by show 4 ≤ sizeLine; decide, fun T hT => dig rfl rfl (c4.st.same (same_new hT _)) (by decide) (by decide) fun i2 H5 k0 k1 c5 of5 => ?_⟩⟩
      have nTS : T ≠ S := fun e => by obtain ⟨u, e2⟩ := c4.st.some; rw [← e, hT] at e2; cases e2
      have hT5 := (of5 T nTS).trans (upd_same (H := H4) (a := T) (o := .tup [.str "x", .str "y", .str "zz", .str ""]))
      have p1' : H4 D = some (.dK kvs) := c4.off _ _ nDS p1
      have hD5 : H5 D = some (.dK kvs) := by
        rw [of5 D nDS, upd_ne (ne_of_none p1' hT)]
        exact p1'
      have c45 : Ch S H4 H5 := ((Ch.refl c4.st).more (same_new hT (.tup [.str "x", .str "y", .str "zz", .str ""]))).trans c5
      have ex : ∃ (jj : Nat) (y : Str), i2 = (jj : Nat) ∧ ([V.str "x", .str "y", .str "zz", .str ""] : List V)[jj]? = some (.str y) ∧ y ∈ [("x" : Str), "y", "zz", ""] := by
        have : i2 = 0 ∨ i2 = 1 ∨ i2 = 2 ∨ i2 = 3 := by omega
        rcases this with e | e | e | e
        · exact ⟨0, "x", e, rfl, by decide +kernel⟩
        · exact ⟨1, "y", e, rfl, by decide +kernel⟩
        · exact ⟨2, "zz", e, rfl, by decide +kernel⟩
        · exact ⟨3, "", e, rfl, by decide +kernel⟩
      obtain ⟨jj, y, ej, ey, hy⟩ := ex
      refine ⟨T, _, i2, _, rfl, rfl, .inl (.inl hT5), by rw [ej]; exact atI_nat ey, D, _, rfl, .inl ⟨kvs, .inr y, hD5, rfl, small1000 (by have := keys_len p2; omega), rfl⟩, ?_⟩
      have c05 := (p9.trans c4).trans c45
      have toN : Same (nw H' H4) (nw (upd H2 D (.dK [])) (upd H5 D (.dK (putK kvs (Sum.inr y) v)))) := fun b o e => by
        obtain ⟨e1, e2⟩ := nw_some e
        have hb : b ≠ D := fun z => by rw [z, p1] at e1; cases e1
        have hbS : b ≠ S := fun z => by obtain ⟨u, q⟩ := p9.st.some; rw [z, q] at e1; cases e1
        have : (upd H2 D (.dK [])) b = none := by rw [upd_ne hb]; exact p9.free c12.st e1
        rw [nw_at this, upd_ne hb]
        exact c45.off b o hbS e2
      have toN2 : Same (nw (upd H2 D (.dK [])) H') (nw (upd H2 D (.dK [])) (upd H5 D (.dK (putK kvs (Sum.inr y) v)))) := fun b o e => by
        obtain ⟨e1, e2⟩ := nw_some e
        have hb : b ≠ D := fun z => by rw [z, upd_same] at e1; cases e1
        have hbS : b ≠ S := fun z => by obtain ⟨u, q⟩ := hSD.some; rw [z, q] at e1; cases e1
        rw [nw_at e1, upd_ne hb]
        exact (c4.trans c45).off b o hbS e2
      obtain ⟨w1, w2⟩ := put_rep (r4.mono (rds_of toN)) (y := y) p3 p2 (p7.mono (rds_of toN2))
      have lp := putKs_len ks y
      refine ⟨_, putKs ks y, putDs ks ds y d, _, rfl, upd_same, w1, ?_, ?_, by omega, fun kk hkk => ?_, w2, fun e he => (putDs_mem he).elim (fun q => q ▸ b4) (p8 e), ⟨?_, fun b o nb e => ?_⟩⟩
      · unfold putKs
        split
        · exact p3
        · rename_i hn
          exact List.nodup_append.mpr ⟨p3, List.nodup_cons.mpr ⟨List.not_mem_nil, List.nodup_nil⟩, fun a ha b hb e => hn (by rw [List.mem_singleton.mp hb] at e; rw [← e]; exact ha)⟩
      · unfold putKs
        split
        · rename_i hi
          rw [putDs_in p4 hi]; exact p4
        · rename_i hi
          rw [putDs_out p4 hi, List.length_append, List.length_append, p4]; rfl
      · unfold putKs at hkk
        split at hkk
        · exact p6 kk hkk
        · rcases List.mem_append.mp hkk with h | h
          · exact p6 kk h
          · rw [List.mem_singleton.mp h]; exact hy
      · obtain ⟨n, h0, e⟩ := c05.st
        exact ⟨n, h0, by rw [upd_ne (fun z => nDS z.symm)]; exact e⟩
      · rw [upd_ne (ne_of_none e hD)]
        exact c05.off b o nb e
    · obtain ⟨kvs, ks, ds, x4, rfl, p1, p2, p3, p4, p5, p6, p7, p8, p9⟩ := pv
      have toN : Same (nw (upd H2 D (.dK [])) H') (nw H H') := fun b o e => by
        obtain ⟨e1, e2⟩ := nw_some e
        have hb : b ≠ D := fun z => by rw [z, upd_same] at e1; cases e1
        rw [upd_ne hb] at e1
        rw [nw_at (c12.free st e1)]
        exact e2
      have v := vbL p8
      have lk := lens2 fun k hk => (names4 (p6 k hk)).2
      have s3 : szL ds ≤ 3 * sB l := Nat.le_trans v.2.1 (Nat.mul_le_mul_right _ (by omega))
      refine ⟨_, rfl, q _ (.rcd ks ds) H' (c12.trans p9) (.rcd (.inl (by rw [nw_at hD0]; exact p1)) p2 (p7.mono (rds_of toN))) ⟨?_, ?_, ⟨p3, p4, by omega, fun k hk => (names4 (p6 k hk)).1, v.2.2⟩, vbG p8⟩⟩
      · rw [Dat.dep]; have := v.1; omega
      · rw [Dat.sz, sB]; omega
  · refine setS (dig rfl rfl c12.st (by decide) (by decide) fun ow H3 k0 k1 c3 _ => setS ⟨by show 2 ≤ sizeLine; decide, fun T hT => dig rfl rfl (c3.st.same (same_new hT _)) (by decide) (by decide) fun i2 H4 n0 n1 c4 of4 => ?_⟩)
    have nTS : T ≠ S := fun e => by obtain ⟨u, e2⟩ := c3.st.some; rw [← e, hT] at e2; cases e2
    have hT4 := (of4 T nTS).trans (upd_same (H := H3) (a := T) (o := .tup [.str "go", .str "stop2"]))
    have c34 : Ch S H3 H4 := ((Ch.refl c3.st).more (same_new hT (.tup [.str "go", .str "stop2"]))).trans c4
    have ex : ∃ (jj : Nat) (y : Str), i2 = (jj : Nat) ∧ ([V.str "go", .str "stop2"] : List V)[jj]? = some (.str y) ∧ y.length ≤ 5 ∧ Low y := by
      have : i2 = 0 ∨ i2 = 1 := by omega
      rcases this with e | e
      · exact ⟨0, "go", e, rfl, by decide +kernel, by decide +kernel⟩
      · exact ⟨1, "stop2", e, rfl, by decide +kernel, by decide +kernel⟩
    obtain ⟨jj, y, ej, ey, hy, lw⟩ := ex
    have c04 := (c12.trans c3).trans c34
    refine ⟨T, _, i2, _, rfl, rfl, .inl (.inl hT4), by rw [ej]; exact atI_nat ey, ?_⟩
    refine ⟨_, rfl, _, rfl, comp _ _ _ _ H4 _ c04 fun D ds H5 c5 hl R hR bs => ⟨by show 4 ≤ sizeLine; decide, fun W hW => ?_⟩⟩
    obtain ⟨vs, hv, rs⟩ := hR
    have c05 := c04.trans c5
    have hW0 : H W = none := c05.free st hW
    have sN : Same (nw H4 H5) (nw H (upd H5 W (.tup [.str "act", .int ow, .str y, .ref D]))) := fun b o e => by
      have := nw_same (H := H) (same_new hW (.tup [.str "act", .int ow, .str y, .ref D])) b o (nw_old st c04 b o e)
      exact this
    refine q _ (.act ow y ds) _ (c05.more (same_new hW _)) (.act (by rw [nw_at hW0, upd_same]) (sN _ _ hv) (rs.mono (rds_of sN))) ⟨?_, ?_, ?_, lw, vbG bs⟩
    · rw [Dat.dep]; have := (vbL bs).1; omega
    · rw [Dat.sz, sB]; have := stepv hl bs; omega
    · have hb : big30 = 1000000000000000000000000000000 := rfl
      exact ⟨by rw [hb]; omega, by omega, by omega, (vbL bs).2.2⟩
theorem cal_L_value_n (D : DefA K mg "_law_value" s_L_value) (z : Nm mg) (c : Cal PP w K mg base CX0 1 "_law_digit" ["_law_state", "_law_many_here"] spDigit) (c2 : Cal PP w K mg base CX0 2 "_law_text" ["_law_state"] spDText) (c3 : Cal PP w K mg base CX0 2 "_law_number" ["_law_state"] spNum) : ∀ n : Nat, Cal PP w K mg base CX0 (n + 2) "_law_value" ["_law_state", "_law_levels"] (spVal n)
  | 0 => (Cal.never D (fun f fd F => F.bindsN fun _ _ _ _ _ _ us hl => match us, hl with | [_, _], _ => rfl) fun vs H Q E ⟨S, l, _, h, _⟩ => by omega).mono (Nat.zero_le _)
  | n + 1 => cal_L_value D z (by omega) c c2 c3 (cal_L_value_n D z c c2 c3 n)
end
end Vk
set_option maxHeartbeats 4000000
/-! the law draws: the environment -/
namespace Vk
open PySem PySem.Spec PyProof.Rows L2
def ks0 : List Str := ["n", "k", "b", "t", "l", "m", "r", "o"]
theorem merge_new : ∀ {kvs acc : List (Key × V)}, ((acc ++ kvs).map (·.1)).Nodup → mergeK acc kvs = acc ++ kvs
  | [], acc, _ => by rw [List.append_nil]; rfl
  | p :: kvs, acc, h => by
    have h0 : valV acc p.1 = none := valV_fresh fun m => by
      rw [List.map_append, List.nodup_append] at h
      exact h.2.2 _ m p.1 List.mem_cons_self rfl
    show mergeK (putK acc p.1 p.2) kvs = _
    rw [putK_new _ h0, merge_new (acc := acc ++ [(p.1, p.2)]) (by rw [List.append_assoc]; exact h), List.append_assoc]
    rfl
/-- the first m names of the environment stand, in a dict at D -/
structure ES (H : Hp) (S D : Addr) (m : Nat) (Hc : Hp) : Prop where
  ex : ∃ (kvs : List (Key × V)) (ds : List Dat), Hc D = some (.dK kvs) ∧ kvs.map (·.1) = (ks0.take m).map Sum.inr ∧ Reps (nw (upd H D (.dK [])) Hc) (kvs.map (·.2)) ds ∧ (∀ d ∈ ds, Bd d ∧ d.Sg)
  ch : Ch S H Hc
  free : H D = none
theorem ks0_nodup : ks0.Nodup := by decide +kernel
theorem ES.ne {H : Hp} {S D : Addr} {m : Nat} {Hc : Hp} (e : ES H S D m Hc) (st : St S H) : D ≠ S := fun z => by
  obtain ⟨u, q⟩ := st.some
  rw [← z, e.free] at q
  cases q
theorem ES.dput {H : Hp} {S D : Addr} {m : Nat} {Hc H4 : Hp} {y : Str} {v : V} {d : Dat} (e : ES H S D m Hc) (st : St S H) (c : Ch S Hc H4) (R : Rep (nw Hc H4) v d) (b : Bd d ∧ d.Sg) (hy : ks0[m]? = some y) : ∃ H5, DPut H4 D (.str y) v H5 ∧ ES H S D (m + 1) H5 := by
  have nDS := e.ne st
  obtain ⟨kvs, ds, p1, p2, p3, p4⟩ := e.ex
  obtain ⟨n1, n2⟩ := put_new (H := H) v p2 ks0_nodup hy
  have p1' := c.off _ _ nDS p1
  have lk := keys_len p2
  have l8 : (ks0.take m).length ≤ 8 := by rw [List.length_take]; exact Nat.min_le_right _ _
  have c04 := e.ch.trans c
  refine ⟨_, .inl ⟨kvs, .inr y, p1', rfl, small1000 (by omega), rfl⟩, ⟨kvs ++ [(Sum.inr y, v)], ds ++ [d], by rw [n1]; exact upd_same, n2, ?_, fun z hz => ?_⟩, ⟨?_, fun b o nb q => ?_⟩, e.free⟩
  · rw [List.map_append]
    have t1 : Same (nw (upd H D (.dK [])) Hc) (nw (upd H D (.dK [])) (upd H4 D (.dK (putK kvs (Sum.inr y) v)))) := fun b o q => by
      obtain ⟨e1, e2⟩ := nw_some q
      have hb : b ≠ D := fun z => by rw [z, upd_same] at e1; cases e1
      have hbS : b ≠ S := fun z => by obtain ⟨u, q⟩ := st.some; rw [z, upd_ne (fun z => nDS z.symm), q] at e1; cases e1
      rw [nw_at e1, upd_ne hb]
      exact c.off b o hbS e2
    have t2 : Same (nw Hc H4) (nw (upd H D (.dK [])) (upd H4 D (.dK (putK kvs (Sum.inr y) v)))) := fun b o q => by
      obtain ⟨e1, e2⟩ := nw_some q
      have hb : b ≠ D := fun z => by rw [z, p1] at e1; cases e1
      have : (upd H D (.dK [])) b = none := by rw [upd_ne hb]; exact e.ch.free st e1
      rw [nw_at this, upd_ne hb]
      exact e2
    exact (p3.mono (rds_of t1)).app (.cons (R.mono (rds_of t2)) .nil)
  · rcases List.mem_append.mp hz with h | h
    · exact p4 z h
    · rw [List.mem_singleton.mp h]; exact b
  · obtain ⟨n, h0, q⟩ := c04.st
    exact ⟨n, h0, by rw [upd_ne (fun z => nDS z.symm)]; exact q⟩
  · rw [upd_ne (ne_of_none q e.free)]
    exact c04.off b o nb q
theorem vb_bd {l : Nat} {d : Dat} (h : VB l d) (hl : l ≤ 2) : Bd d ∧ d.Sg := by
  have e0 : sB 2 = 82 := by decide
  have e1 : sB 1 = 25 := by decide
  have e2 : sB 0 = 6 := by decide
  have h1 := h.dep
  have h2 := h.sz
  refine ⟨⟨by omega, ?_, h.wd⟩, h.sg⟩
  match l, hl with
  | 0, _ => omega
  | 1, _ => omega
  | 2, _ => omega
/-- an environment of one's own, new -/
def spEnv : Sp := fun vs H Q _ => ∃ S, vs = [.ref S] ∧ St S H ∧ ∀ D kvs ds H', Ch S H H' → nw H H' D = some (.dK kvs) → kvs.map (·.1) = ks0.map Sum.inr → Reps (nw H H') (kvs.map (·.2)) ds → EnvOk ks0 ds → (∀ d ∈ ds, d.Sg) → Q (.ref D) H'
section
variable {w : World} {K : PySem.W.Frag} {mg : Str → Option Value} {base : Heap} {n k : Nat}
abbrev s_L_environment : Stmt := topS 97
theorem sc_L_environment : FnScope ["_law_state", "_law_environment_here", "_law_k"] ["_law_state"] (defScope s_L_environment) := ⟨rfl, rfl, rfl, by decide +kernel, rfl, by decide +kernel, by decide +kernel⟩
theorem cal_L_environment (D : DefA K mg "_law_environment" s_L_environment) (z : Nm mg) (c__law_digit : Cal PP w K mg base CX0 1 "_law_digit" ["_law_state", "_law_many_here"] spDigit) (c__law_text : Cal PP w K mg base CX0 2 "_law_text" ["_law_state"] spDText) (c__law_number : Cal PP w K mg base CX0 2 "_law_number" ["_law_state"] spNum)
    (v2 : Cal PP w K mg base CX0 5 "_law_value" ["_law_state", "_law_levels"] (spVal 3)) (v1 : Cal PP w K mg base CX0 5 "_law_value" ["_law_state", "_law_levels"] (spVal 2)) : Cal PP w K mg base CX0 6 "_law_environment" ["_law_state"] spEnv := by
  have c__law_digit := c__law_digit.mono (show 1 ≤ 5 by decide)
  have c__law_text := c__law_text.mono (show 2 ≤ 5 by decide)
  have c__law_number := c__law_number.mono (show 2 ≤ 5 by decide)
  refine cal_mk D sc_L_environment (fun _ _ _ _ _ _ us hl => match us, hl with | [_], _ => rfl) (fun vs H Q E h => ?_) (fun f cdv A outer s H vs Q E hr h => ?_)
  · obtain ⟨S, rfl, _⟩ := h
    rfl
  obtain ⟨S, rfl, st, q⟩ := h
  have hu := hu_of hr
  refine ⟨_, (pss_cons (ps_set (i := 1) sc_L_environment.nd rfl (Or.inl rfl) (pe_disp (pps_cons pe_str (pe_cal c__law_digit hr (by rfl) (pa_cons (pv 0) (pa_cons pe_int pa_nil))) (pps_cons pe_str (pe_cal c__law_number hr (by rfl) (pa_cons (pv 0) pa_nil)) (pps_cons pe_str (pe_cmpR op_eq (pe_cal c__law_digit hr (by rfl) (pa_cons (pv 0) (pa_cons pe_int pa_nil))) pe_int (nomark _)) pps_nil))) (by rfl) (by rfl) (fun z => by cases z) (by decide)))
    (pss_cons (ps_dput hu (pv 1) pe_str (pe_cal c__law_text hr (by rfl) (pa_cons (pv 0) pa_nil)) rfl)
    (pss_cons (ps_dput hu (pv 1) pe_str (pe_lc (own := [("_law_k", 2)]) (g := gName 2) (tt := tYes) rfl sc_L_environment.nd (pi_range1 (by rfl) z.range (pa_cons (pe_cal c__law_digit hr (by rfl) (pa_cons (pv 0) (pa_cons pe_int pa_nil))) pa_nil)) (blkOk_by (N := ["_law_state", "_law_environment_here", "_law_k"]) (sc := defScope s_L_environment) (by decide +kernel)) (fun _ _ _ _ _ => pg_name (i := 2) sc_L_environment.nd rfl (Or.inl rfl)) (fun _ _ _ _ _ => pts_nil) (fun _ _ _ _ _ => (pe_cal c__law_digit hr (by rfl) (pa_cons (pv 0) (pa_cons pe_int pa_nil))))) rfl)
    (pss_cons (ps_dput hu (pv 1) pe_str (pe_lc (own := [("_law_k", 2)]) (g := gName 2) (tt := tYes) rfl sc_L_environment.nd (pi_range1 (by rfl) z.range (pa_cons (pe_cal c__law_digit hr (by rfl) (pa_cons (pv 0) (pa_cons pe_int pa_nil))) pa_nil)) (blkOk_by (N := ["_law_state", "_law_environment_here", "_law_k"]) (sc := defScope s_L_environment) (by decide +kernel)) (fun _ _ _ _ _ => pg_name (i := 2) sc_L_environment.nd rfl (Or.inl rfl)) (fun _ _ _ _ _ => pts_nil) (fun _ _ _ _ _ => (pe_cal v1 hr (by rfl) (pa_cons (pv 0) (pa_cons pe_int pa_nil))))) rfl)
    (pss_cons (ps_dput hu (pv 1) pe_str (pe_disp (pps_cons pe_str (pe_cal c__law_digit hr (by rfl) (pa_cons (pv 0) (pa_cons pe_int pa_nil))) (pps_cons pe_str (pe_cal c__law_text hr (by rfl) (pa_cons (pv 0) pa_nil)) pps_nil)) (by rfl) (by rfl) (fun z => by cases z) (by decide)) rfl)
    (pss_cons (ps_dput hu (pv 1) pe_str (pe_cal v2 hr (by rfl) (pa_cons (pv 0) (pa_cons pe_int pa_nil))) rfl)
    (pss_one (ps_ret (pv 1))))))))), ?_⟩
  refine setS fun D hD => ?_
  have st0 := st.same (same_new hD (.dK []))
  have nDS : D ≠ S := fun z => by
    obtain ⟨u, q⟩ := st.some
    rw [← z, hD] at q
    cases q
  refine dig rfl rfl st0 (by decide) (by decide) fun i1 H1 a0 a1 c1 _ => numL rfl c1.st fun i2 H2 b2 c2 => dig rfl rfl c2.st (by decide) (by decide) fun i3 H3 a2 a3 c3 _ => ⟨rfl, ?_⟩
  have c13 := (c1.trans c2).trans c3
  have hD3 := c13.off _ _ nDS (upd_same (H := H) (a := D) (o := .dK []))
  have c03 : Ch S H H3 := ((Ch.refl st).more (same_new hD (.dK []))).trans c13
  refine ⟨hD3, [(Sum.inr "n", .int i1), (Sum.inr "k", .int i2), (Sum.inr "b", .bl (decide (V.int i3 = V.int 1)))], rfl, by show 3 ≤ 15; decide, ?_⟩
  rw [merge_new (by show ([Sum.inr "n", Sum.inr "k", Sum.inr "b"] : List Key).Nodup; decide +kernel)]
  have e3 : ES H S D 3 (upd H3 D (.dK [(Sum.inr "n", .int i1), (Sum.inr "k", .int i2), (Sum.inr "b", .bl (decide (V.int i3 = V.int 1)))])) := by
    refine ⟨⟨_, [.int i1, .int i2, .bl _], upd_same, rfl, .cons (.int _) (.cons (.int _) (.cons (.bl _) .nil)), fun d hd => ?_⟩, ⟨?_, fun b o nb q => ?_⟩, hD⟩
    · rcases List.mem_cons.mp hd with h | hd
      · rw [h]
        obtain ⟨m, rfl⟩ : ∃ m : Nat, i1 = (m : Nat) := ⟨i1.toNat, by omega⟩
        exact ⟨bd_nat (by omega), trivial⟩
      rcases List.mem_cons.mp hd with h | hd
      · rw [h]; exact ⟨bd_int b2, trivial⟩
      · rw [List.mem_singleton.mp hd]; exact ⟨bd_bl _, trivial⟩
    · obtain ⟨n, h0, q⟩ := c03.st
      exact ⟨n, h0, by rw [upd_ne (fun z => nDS z.symm)]; exact q⟩
    · rw [upd_ne (ne_of_none q hD)]
      exact c03.off b o nb q
  refine dputS (txtL rfl e3.ch.st fun x H4 lx c4 => ?_)
  obtain ⟨H5, dp5, e5⟩ := e3.dput st c4 (.str x) ⟨bd_str (by have := lx.1; omega), lx.2⟩ rfl
  refine ⟨_, rfl, D, H5, rfl, dp5, ?_⟩
  have small : ∀ {l m : Nat} {G : Hp} {acc : List V} {E : Addr}, l ≤ 1 → m ≤ 4 → acc.length = m → G E = some (.lst acc) → (∀ y ∈ acc, ElV l G y) → ∃ d, Rep G (.ref E) d ∧ (Bd d ∧ d.Sg) := fun {l m G acc E} hl hm la hE he => by
    obtain ⟨ds, rs, bs⟩ := els he
    have b := vbL bs
    have ll := rs.length
    refine ⟨.lst ds, .lst hE rs, ⟨by rw [Dat.dep]; have := b.1; omega, ?_, ⟨by omega, b.2.2⟩⟩, vbG bs⟩
    rw [Dat.sz]
    have h1 : szL ds ≤ 4 * sB l := Nat.le_trans b.2.1 (Nat.mul_le_mul_right _ (by omega))
    have h2 : sB l ≤ 25 := by
      match l, hl with
      | 0, _ => decide
      | 1, _ => decide
    omega
  have compL : ∀ (H5 : Hp) (Q' : VK), St S H5 → (∀ E d H7, Ch S H5 H7 → Rep (nw H5 H7) (.ref E) d → Bd d ∧ d.Sg → Q' (.ref E) H7) →
      tLc (iRng1 (tCons (tCal spDigit E0 (tCons (tVar 0) (tCons (tC (.int 5)) tNil))) tNil)) (gName 2) tYes (tCal spDigit E0 (tCons (tVar 0) (tCons (tC (.int 9)) tNil))) [2] [some (.ref S), some (.ref D), none] H5 Q' := fun H5 Q' s5 q' => by
    refine dig rfl rfl s5 (by decide) (by decide) fun m0 H6 a4 a5 c6 _ => ⟨m0, rfl, by omega, by omega, ?_⟩
    refine lc_ch (n := m0.toNat) walk_range c6.st (ElV 0) (fun G G' y s ⟨d, r, b⟩ => ⟨d, r.mono (rds_of s), b⟩) (small1000 (by omega)) (fun _ _ => trivial) (fun j x H4 H' Qk hj c4 hy => ⟨hy.1, fun qk => ?_⟩) fun E acc H7 la c7 hE hel => ?_
    · exact dig rfl rfl c4.st (by decide) (by decide) fun i6 H6 g0 g1 c6 _ => qk _ _ c6 ⟨.int i6, .int _, vb_small (by rw [Dat.dep]) (by rw [Dat.sz]; decide) (by
        have hb : big30 = 1000000000000000000000000000000 := rfl
        rw [Dat.WD, hb]
        omega) trivial⟩
    · obtain ⟨d7, r7, b7⟩ := small (Nat.zero_le 1) (m := m0.toNat) (by omega) la hE hel
      exact q' E d7 H7 (c6.trans c7) (r7.mono (rds_of (nw_old s5 c6))) b7
  have compM : ∀ (H5 : Hp) (Q' : VK), St S H5 → (∀ E d H7, Ch S H5 H7 → Rep (nw H5 H7) (.ref E) d → Bd d ∧ d.Sg → Q' (.ref E) H7) →
      tLc (iRng1 (tCons (tCal spDigit E0 (tCons (tVar 0) (tCons (tC (.int 3)) tNil))) tNil)) (gName 2) tYes (tCal (spVal 2) E0 (tCons (tVar 0) (tCons (tC (.int 1)) tNil))) [2] [some (.ref S), some (.ref D), none] H5 Q' := fun H5 Q' s5 q' => by
    refine dig rfl rfl s5 (by decide) (by decide) fun m0 H6 a4 a5 c6 _ => ⟨m0, rfl, by omega, by omega, ?_⟩
    refine lc_ch (n := m0.toNat) walk_range c6.st (ElV 1) (fun G G' y s ⟨d, r, b⟩ => ⟨d, r.mono (rds_of s), b⟩) (small1000 (by omega)) (fun _ _ => trivial) (fun j x H4 H' Qk hj c4 hy => ⟨hy.1, fun qk => ?_⟩) fun E acc H7 la c7 hE hel => ?_
    · exact ⟨_, rfl, S, 1, rfl, rfl, c4.st, fun v d H5 c5 r5 b5 => qk v H5 c5 ⟨d, r5, b5⟩⟩
    · obtain ⟨d7, r7, b7⟩ := small (Nat.le_refl 1) (m := m0.toNat) (by omega) la hE hel
      exact q' E d7 H7 (c6.trans c7) (r7.mono (rds_of (nw_old s5 c6))) b7
  refine dputS (compL _ _ e5.ch.st fun E d7 H7 c7 r7 b7 => ?_)
  obtain ⟨H8, dp8, e8⟩ := e5.dput st c7 r7 b7 rfl
  refine ⟨_, rfl, D, H8, rfl, dp8, ?_⟩
  refine dputS (compM _ _ e8.ch.st fun E d10 H10 c10 r10 b10 => ?_)
  obtain ⟨H11, dp11, e11⟩ := e8.dput st c10 r10 b10 rfl
  refine ⟨_, rfl, D, H11, rfl, dp11, ?_⟩
  refine dputS fun W hW => ?_
  have stW := e11.ch.st.same (same_new hW (.dK []))
  have nWS : W ≠ S := fun z => by
    obtain ⟨u, q⟩ := e11.ch.st.some
    rw [← z, hW] at q
    cases q
  refine dig rfl rfl stW (by decide) (by decide) fun i12 H12 a8 a9 c12 _ => txtL rfl c12.st fun x13 H13 l13 c13' => ?_
  have cW := c12.trans c13'
  have hW13 := cW.off _ _ nWS (upd_same (H := H11) (a := W) (o := .dK []))
  refine ⟨hW13, [(Sum.inr "x", .int i12), (Sum.inr "y", .str x13)], rfl, by show 2 ≤ 15; decide, ?_⟩
  rw [merge_new (by show ([Sum.inr "x", Sum.inr "y"] : List Key).Nodup; decide +kernel)]
  have c14 : Ch S H11 (upd H13 W (.dK [(Sum.inr "x", .int i12), (Sum.inr "y", .str x13)])) := by
    have c := ((Ch.refl e11.ch.st).more (same_new hW (.dK []))).trans cW
    refine ⟨?_, fun b o nb q => ?_⟩
    · obtain ⟨n, h0, q⟩ := c.st
      exact ⟨n, h0, by rw [upd_ne (fun z => nWS z.symm)]; exact q⟩
    · rw [upd_ne (ne_of_none q hW)]
      exact c.off b o nb q
  have b14 : Bd (.rcd ["x", "y"] [.int i12, .str x13]) ∧ (Dat.rcd ["x", "y"] [.int i12, .str x13]).Sg := by
    refine ⟨?_, trivial, l13.2, trivial⟩
    have l13 := l13.1
    have hb : big30 = 1000000000000000000000000000000 := rfl
    refine ⟨by rw [Dat.dep, depL, depL, depL, Dat.dep, Dat.dep]; decide, ?_, by decide +kernel, rfl, by decide, fun k hk => (names4 (by
      rcases List.mem_cons.mp hk with h | hk
      · rw [h]; exact List.mem_cons_self
      · rw [List.mem_singleton.mp hk]; exact List.mem_cons_of_mem _ List.mem_cons_self)).1, by rw [Dat.WD, hb]; omega, by rw [Dat.WD]; omega, trivial⟩
    rw [Dat.sz, szL, szL, szL, Dat.sz, Dat.sz]
    have : lens ["x", "y"] = 2 := by decide +kernel
    omega
  have r14 : Rep (nw H11 (upd H13 W (.dK [(Sum.inr "x", .int i12), (Sum.inr "y", .str x13)]))) (.ref W) (.rcd ["x", "y"] [.int i12, .str x13]) :=
    .rcd (.inl (by rw [nw_at hW, upd_same])) rfl (.cons (.int _) (.cons (.str _) .nil))
  obtain ⟨H15, dp15, e15⟩ := e11.dput st c14 r14 b14 rfl
  refine ⟨_, rfl, D, H15, rfl, dp15, ?_⟩
  refine dputS ⟨_, rfl, S, 2, rfl, rfl, e15.ch.st, fun v d H16 c16 r16 b16 => ?_⟩
  obtain ⟨H17, dp17, e17⟩ := e15.dput st c16 r16 (vb_bd b16 (Nat.le_refl 2)) rfl
  refine ⟨_, rfl, D, H17, rfl, dp17, _, rfl, ?_⟩
  obtain ⟨kvs, ds, p1, p2, p3, p4⟩ := e17.ex
  have sN : Same (nw (upd H D (.dK [])) H17) (nw H H17) := fun b o e => by
    obtain ⟨e1, e2⟩ := nw_some e
    have hb : b ≠ D := fun z => by rw [z, upd_same] at e1; cases e1
    rw [upd_ne hb] at e1
    rw [nw_at e1]
    exact e2
  have lk := keys_len p2
  have lr := p3.length
  rw [List.length_map] at lr
  refine q D kvs ds H17 e17.ch (by rw [nw_at hD]; exact p1) p2 (p3.mono (rds_of sN)) ⟨ks0_nodup, ?_, fun k hk => ?_, fun d hd => (p4 d hd).1⟩ fun d hd => (p4 d hd).2
  · rw [← lr, lk]
    rfl
  · have : ∀ k ∈ ks0, k.length ≤ 5000 := by decide +kernel
    exact this k hk
end
end Vk
set_option maxHeartbeats 4000000
/-! the law draws: literals, leaves -/
namespace Vk
open PySem PySem.Spec PyProof.Rows L2
/-- an expression of at most m levels; its names are the environment's or among bs -/
def GoodE (bs : List Str) (m : Nat) (G : Hp) (v : V) : Prop := ∃ x, ERep G v x ∧ x.lvl ≤ m ∧ ∀ ks, (∀ y ∈ ks0, y ∈ ks) → (∀ y ∈ bs, y ∈ ks) → x.ok ks
theorem GoodE.mono {bs : List Str} {m : Nat} {G G' : Hp} {v : V} (s : Same G G') (h : GoodE bs m G v) : GoodE bs m G' v := let ⟨x, r, l, o⟩ := h; ⟨x, r.mono (rds_of s), l, o⟩
theorem GoodE.wide {bs cs : List Str} {m n : Nat} {G : Hp} {v : V} (h : GoodE bs m G v) (hm : m ≤ n) (hb : ∀ y ∈ bs, y ∈ cs) : GoodE cs n G v := let ⟨x, r, l, o⟩ := h; ⟨x, r, Nat.le_trans l hm, fun ks h1 h2 => o ks h1 fun y hy => h2 y (hb y hy)⟩
theorem nw_new {H H1 : Hp} {p : Addr} {o : HO} (hp : H p = none) : nw H (upd H1 p o) p = some o := by rw [nw_at hp, upd_same]
/-- a new thing over what is new -/
theorem nw_upd {H H1 : Hp} {p : Addr} {o : HO} (hp : H1 p = none) : Same (nw H H1) (nw H (upd H1 p o)) := nw_same (same_new hp o)
def spLit : Sp := fun vs H Q _ => ∃ S wn, vs = [.ref S, .int wn] ∧ St S H ∧ 0 ≤ wn ∧ wn ≤ 5 ∧ ∀ v H', Ch S H H' → GoodE [] 2 (nw H H') v → Q v H'
section
variable {w : World} {K : PySem.W.Frag} {mg : Str → Option Value} {base : Heap} {n k : Nat}
abbrev s_L_literal : Stmt := topS 90
theorem sc_L_literal : FnScope ["_law_state", "_law_want", "_law_number_here"] ["_law_state", "_law_want"] (defScope s_L_literal) := ⟨rfl, rfl, rfl, by decide +kernel, rfl, by decide +kernel, by decide +kernel⟩
theorem cal_L_literal (D : DefA K mg "_law_literal" s_L_literal) (c__law_digit : Cal PP w K mg base CX0 1 "_law_digit" ["_law_state", "_law_many_here"] spDigit) (c__law_text : Cal PP w K mg base CX0 2 "_law_text" ["_law_state"] spDText) (c__law_number : Cal PP w K mg base CX0 2 "_law_number" ["_law_state"] spNum) :
    Cal PP w K mg base CX0 3 "_law_literal" ["_law_state", "_law_want"] spLit := by
  have c__law_digit := c__law_digit.mono (show 1 ≤ 2 by decide)
  refine cal_mk D sc_L_literal (fun _ _ _ _ _ _ us hl => match us, hl with | [_, _], _ => rfl) (fun vs H Q E h => ?_) (fun f cdv A outer s H vs Q E hr h => ?_)
  · obtain ⟨S, wn, rfl, _⟩ := h
    rfl
  obtain ⟨S, wn, rfl, st, w0, w5, q⟩ := h
  refine ⟨_, (pss_cons (ps_if (pt_cmpR op_eq (pv 1) pe_int (nomark _)) (pss_one (ps_set (i := 1) sc_L_literal.nd rfl (Or.inl rfl) (pe_op op_add pe_int (pe_cal c__law_digit hr (by rfl) (pa_cons (pv 0) (pa_cons pe_int pa_nil)))))) pss_nil)
    (pss_cons (ps_if (pt_cmpR op_eq (pv 1) pe_int (nomark _)) (pss_cons (ps_set (i := 2) sc_L_literal.nd rfl (Or.inl rfl) (pe_cal c__law_number hr (by rfl) (pa_cons (pv 0) pa_nil)))
    (pss_cons (ps_if (pt_cmpR op_lt (pv 2) pe_int (nomark _)) (pss_one (ps_ret (pe_tup (pa_cons pe_str (pa_cons (pe_tup (pa_cons pe_str (pa_cons (pe_op op_sub pe_int (pv 2)) pa_nil))) pa_nil))))) pss_nil)
    (pss_one (ps_ret (pe_tup (pa_cons pe_str (pa_cons (pv 2) pa_nil))))))) pss_nil)
    (pss_cons (ps_if (pt_cmpR op_eq (pv 1) pe_int (nomark _)) (pss_one (ps_ret (pe_ix ix_tup (pe_tup (pa_cons (pe_tup (pa_cons pe_str pa_nil)) (pa_cons (pe_tup (pa_cons pe_str pa_nil)) pa_nil))) (pe_cal c__law_digit hr (by rfl) (pa_cons (pv 0) (pa_cons pe_int pa_nil))) (fun _ _ => rfl)))) pss_nil)
    (pss_cons (ps_if (pt_cmpR op_eq (pv 1) pe_int (nomark _)) (pss_one (ps_ret (pe_tup (pa_cons pe_str (pa_cons (pe_cal c__law_text hr (by rfl) (pa_cons (pv 0) pa_nil)) pa_nil))))) pss_nil)
    (pss_cons (ps_if (pt_cmpR op_eq (pv 1) pe_int (nomark _)) (pss_one (ps_ret (pe_tup (pa_cons pe_str (pa_cons (pe_lst pa_nil) pa_nil))))) pss_nil)
    (pss_one (ps_ret (pe_tup (pa_cons pe_str pa_nil))))))))), ?_⟩
  have rest : ∀ (wn : Int) (H1 : Hp), Ch S H H1 → 1 ≤ wn → wn ≤ 5 →
      tSeq (tIfS (tTest (tOp rEq (tVar 1) (tC (.int 1)))) (tSeq (tAsg (tCal spNum E0 (tCons (tVar 0) tNil)) (gName 2)) (tSeq (tIfS (tTest (tOp (rI0 fun i j => .bl (decide (i < j))) (tVar 2) (tC (.int 0)))) (tRet (tTup (tCons (tC (.str "minus")) (tCons (tTup (tCons (tC (.str "number")) (tCons (tOp (rI0 fun i j => .int (i - j)) (tC (.int 0)) (tVar 2)) tNil))) tNil)))) tNext) (tRet (tTup (tCons (tC (.str "number")) (tCons (tVar 2) tNil)))))) tNext)
        (tSeq (tIfS (tTest (tOp rEq (tVar 1) (tC (.int 2)))) (tRet (tOp (rIxT K) (tTup (tCons (tTup (tCons (tC (.str "true")) tNil)) (tCons (tTup (tCons (tC (.str "false")) tNil)) tNil))) (tCal spDigit E0 (tCons (tVar 0) (tCons (tC (.int 2)) tNil))))) tNext)
          (tSeq (tIfS (tTest (tOp rEq (tVar 1) (tC (.int 3)))) (tRet (tTup (tCons (tC (.str "text")) (tCons (tCal spDText E0 (tCons (tVar 0) tNil)) tNil)))) tNext)
            (tSeq (tIfS (tTest (tOp rEq (tVar 1) (tC (.int 4)))) (tRet (tTup (tCons (tC (.str "list")) (tCons (tLst tNil) tNil)))) tNext) (tRet (tTup (tCons (tC (.str "null")) tNil))))))
        { nx := fun _ H' => Q .non H', rt := Q } [some (.ref S), some (.int wn), none] H1 := fun wn H1 c1 h1 h5 => by
    refine if_pureN (p := wn == 1) (fun Q q => ⟨_, rfl, rfl, _, congrArg V.bl dec_int, q⟩) (fun h => ?_) fun n1 => if_pureN (p := wn == 2) (fun Q q => ⟨_, rfl, rfl, _, congrArg V.bl dec_int, q⟩) (fun h => ?_) fun n2 => if_pureN (p := wn == 3) (fun Q q => ⟨_, rfl, rfl, _, congrArg V.bl dec_int, q⟩) (fun h => ?_) fun n3 => if_pureN (p := wn == 4) (fun Q q => ⟨_, rfl, rfl, _, congrArg V.bl dec_int, q⟩) (fun h => ?_) fun n4 => ?_
    · refine setS (numL rfl c1.st fun i H2 bi c2 => ?_)
      have c12 := c1.trans c2
      refine if_pureN (p := decide (i < 0)) (fun Q q => ⟨_, rfl, _, _, rfl, rfl, _, rfl, q⟩) (fun h => ?_) fun h => ?_
      · refine ⟨_, rfl, _, _, rfl, rfl, by show 2 ≤ sizeLine; decide, fun p hp => ⟨by show 2 ≤ sizeLine; decide, fun r hr => ?_⟩⟩
        have hp0 := c12.free st hp
        have c3 := c12.more (same_new hp (.tup [.str "number", .int (0 - i)]))
        have hr0 := c3.free st hr
        refine q _ _ (c3.more (same_new hr _)) ⟨.neg (.num (0 - i)), .neg (nw_new hr0) (.num (nw_upd hr _ _ (nw_new hp0))), by rw [Ex.lvl, Ex.lvl]; decide, fun ks _ _ => ?_⟩
        rw [Ex.ok, Ex.ok]
        omega
      · refine ⟨_, rfl, by show 2 ≤ sizeLine; decide, fun p hp => ?_⟩
        have hp0 := c12.free st hp
        exact q _ _ (c12.more (same_new hp _)) ⟨.num i, .num (nw_new hp0), by rw [Ex.lvl]; decide, fun ks _ _ => by rw [Ex.ok]; exact bi⟩
    · refine ⟨by show 1 ≤ sizeLine; decide, fun p hp => ⟨by show 1 ≤ sizeLine; decide, fun r hr => ⟨by show 2 ≤ sizeLine; decide, fun t ht => ?_⟩⟩⟩
      have c2 := c1.more (same_new hp (.tup [.str "true"]))
      have c3 := c2.more (same_new hr (.tup [.str "false"]))
      have c4 := c3.more (same_new ht (.tup [.ref p, .ref r]))
      have hp0 := c1.free st hp
      have hr0 := c2.free st hr
      have nS : ∀ b, H b = none → b ≠ S := fun b hb z => by obtain ⟨u, e⟩ := st.some; rw [← z, hb] at e; cases e
      have e1 : (upd (upd (upd H1 p (.tup [.str "true"])) r (.tup [.str "false"])) t (.tup [.ref p, .ref r])) p = some (.tup [.str "true"]) := same_new ht _ _ _ (same_new hr _ _ _ upd_same)
      have e2 : (upd (upd (upd H1 p (.tup [.str "true"])) r (.tup [.str "false"])) t (.tup [.ref p, .ref r])) r = some (.tup [.str "false"]) := same_new ht _ _ _ upd_same
      refine dig rfl rfl c4.st (by decide) (by decide) fun i H5 i0 i1 c5 of5 => ?_
      have hp5 := c5.off _ _ (nS p hp0) e1
      have hr5 := c5.off _ _ (nS r hr0) e2
      have ht5 := c5.off _ _ (nS t (c3.free st ht)) (upd_same (H := upd (upd H1 p (.tup [.str "true"])) r (.tup [.str "false"])) (a := t) (o := .tup [.ref p, .ref r]))
      have hi : i = 0 ∨ i = 1 := by omega
      rcases hi with e | e
      · subst e
        exact ⟨t, _, 0, .ref p, rfl, rfl, .inl (.inl ht5), rfl, q _ _ (c4.trans c5) ⟨.bl true, .tru (by rw [nw_at hp0]; exact hp5), by rw [Ex.lvl]; decide, fun ks _ _ => by rw [Ex.ok]; trivial⟩⟩
      · subst e
        exact ⟨t, _, 1, .ref r, rfl, rfl, .inl (.inl ht5), rfl, q _ _ (c4.trans c5) ⟨.bl false, .fls (by rw [nw_at hr0]; exact hr5), by rw [Ex.lvl]; decide, fun ks _ _ => by rw [Ex.ok]; trivial⟩⟩
    · refine txtL rfl c1.st fun x H2 lx0 c2 => ⟨by show 2 ≤ sizeLine; decide, fun p hp => ?_⟩
      have lx := lx0.1
      have c12 := c1.trans c2
      exact q _ _ (c12.more (same_new hp _)) ⟨.txt x, .txt (nw_new (c12.free st hp)), by rw [Ex.lvl]; decide, fun ks _ _ => by rw [Ex.ok]; omega⟩
    · refine ⟨Nat.zero_le _, fun p hp => ⟨by show 2 ≤ sizeLine; decide, fun r hr => ?_⟩⟩
      have c2 := c1.more (same_new hp (.lst []))
      exact q _ _ (c2.more (same_new hr _)) ⟨.lst .nil, .lst (nw_new (c2.free st hr)) (nw_upd hr _ _ (nw_new (c1.free st hp))) .nil, by rw [Ex.lvl, Exs.lvl]; decide, fun ks _ _ => by rw [Ex.ok]; exact ⟨Nat.zero_le _, by rw [Exs.ok]; trivial⟩⟩
    · refine ⟨by show 1 ≤ sizeLine; decide, fun p hp => ?_⟩
      exact q _ _ (c1.more (same_new hp _)) ⟨.null, .null (nw_new (c1.free st hp)), by rw [Ex.lvl]; decide, fun ks _ _ => by rw [Ex.ok]; trivial⟩
  refine if_pureN (p := wn == 0) (fun Q q => ⟨_, rfl, rfl, _, congrArg V.bl dec_int, q⟩) (fun h => ?_) fun h => ?_
  · refine asgN (op1 (dig rfl rfl st (by decide) (by decide) fun i H1 i0 i1 c1 _ => ⟨_, _, rfl, rfl, ?_⟩))
    exact rest (1 + i) H1 c1 (by omega) (by omega)
  · have : wn ≠ 0 := by simpa using h
    exact rest wn H (.refl st) (by omega) (by omega)
end
end Vk
set_option maxHeartbeats 4000000
/-! the law draws: leaves -/
namespace Vk
open PySem PySem.Spec PyProof.Rows L2
theorem atI_int {α : Type} {xs : List α} {j : Int} {v : α} (h0 : 0 ≤ j) (h : xs[j.toNat]? = some v) : atI xs j = some v := by
  have e : ((j.toNat : Nat) : Int) = j := Int.toNat_of_nonneg h0
  have := atI_nat h
  rw [e] at this
  exact this
def spLeaf : Sp := fun vs H Q _ => ∃ S B wn bs, vs = [.ref S, .int wn, .ref B] ∧ St S H ∧ B ≠ S ∧ H B = some (.lst (List.map V.str bs)) ∧ bs.length ≤ 100 ∧ 0 ≤ wn ∧ wn ≤ 5 ∧ ∀ v H', Ch S H H' → GoodE bs 2 (nw H H') v → Q v H'
section
variable {w : World} {K : PySem.W.Frag} {mg : Str → Option Value} {base : Heap} {n k : Nat}
abbrev s_L_leaf : Stmt := topS 91
theorem sc_L_leaf : FnScope ["_law_state", "_law_want", "_law_bound", "_law_choice", "_law_names"] ["_law_state", "_law_want", "_law_bound"] (defScope s_L_leaf) := ⟨rfl, rfl, rfl, by decide +kernel, rfl, by decide +kernel, by decide +kernel⟩
theorem cal_L_leaf (D : DefA K mg "_law_leaf" s_L_leaf) (z : Nm mg) (c__law_digit : Cal PP w K mg base CX0 1 "_law_digit" ["_law_state", "_law_many_here"] spDigit) (c__law_literal : Cal PP w K mg base CX0 3 "_law_literal" ["_law_state", "_law_want"] spLit) :
    Cal PP w K mg base CX0 4 "_law_leaf" ["_law_state", "_law_want", "_law_bound"] spLeaf := by
  have c__law_digit := c__law_digit.mono (show 1 ≤ 3 by decide)
  refine cal_mk D sc_L_leaf (fun _ _ _ _ _ _ us hl => match us, hl with | [_, _, _], _ => rfl) (fun vs H Q E h => ?_) (fun f cdv A outer s H vs Q E hr h => ?_)
  · obtain ⟨S, B, wn, bs, rfl, _⟩ := h
    rfl
  obtain ⟨S, B, wn, bs, rfl, st, nBS, hB, lb, w0, w5, q⟩ := h
  refine ⟨_, (pss_cons (ps_set (i := 3) sc_L_leaf.nd rfl (Or.inl rfl) (pe_cal c__law_digit hr (by rfl) (pa_cons (pv 0) (pa_cons pe_int pa_nil))))
    (pss_cons (ps_if (pt_cmpR op_eq (pv 3) pe_int (nomark _)) (pss_one (ps_ret (pe_cal c__law_literal hr (by rfl) (pa_cons (pv 0) (pa_cons (pv 1) pa_nil))))) pss_nil)
    (pss_cons (ps_if (PW.pt (pw_and (pt_cmpR op_eq (pv 3) pe_int (nomark _)) (pw_and1 (pt_cmpR op_gt (pe_callB (call_lenK (K := K) rfl) (by rfl) z.len (by decide +kernel) (pa_cons (pv 2) pa_nil)) pe_int (nomark _))))) (pss_one (ps_ret (pe_tup (pa_cons pe_str (pa_cons (pe_ix ix_list (pv 2) (pe_cal c__law_digit hr (by rfl) (pa_cons (pv 0) (pa_cons (pe_callB (call_lenK (K := K) rfl) (by rfl) z.len (by decide +kernel) (pa_cons (pv 2) pa_nil)) pa_nil))) (fun _ _ => rfl)) pa_nil))))) pss_nil)
    (pss_cons (ps_set (i := 4) sc_L_leaf.nd rfl (Or.inl rfl) (pe_ix ix_tup (pe_tup (pa_cons (pe_tup (pa_cons pe_str (pa_cons pe_str (pa_cons pe_str (pa_cons pe_str (pa_cons pe_str (pa_cons pe_str (pa_cons pe_str (pa_cons pe_str pa_nil))))))))) (pa_cons (pe_tup (pa_cons pe_str (pa_cons pe_str pa_nil))) (pa_cons (pe_tup (pa_cons pe_str pa_nil)) (pa_cons (pe_tup (pa_cons pe_str pa_nil)) (pa_cons (pe_tup (pa_cons pe_str (pa_cons pe_str pa_nil))) (pa_cons (pe_tup (pa_cons pe_str (pa_cons pe_str pa_nil))) pa_nil))))))) (pv 1) (fun _ _ => rfl)))
    (pss_one (ps_ret (pe_tup (pa_cons pe_str (pa_cons (pe_ix ix_tup (pv 4) (pe_cal c__law_digit hr (by rfl) (pa_cons (pv 0) (pa_cons (pe_callB (call_lenK (K := K) rfl) (by rfl) z.len (by decide +kernel) (pa_cons (pv 4) pa_nil)) pa_nil))) (fun _ _ => rfl)) pa_nil))))))))), ?_⟩
  refine setS (dig rfl rfl st (by decide) (by decide) fun i H1 i0 i1 c1 _ => ?_)
  have hB1 := c1.off _ _ nBS hB
  refine if_pureN (p := i == 0) (fun Q q => ⟨_, rfl, rfl, _, congrArg V.bl dec_int, q⟩) (fun h => ?_) fun n1 => if_pureN (p := (i == 1) && decide (0 < bs.length)) (PureT.and (fun Q q => ⟨_, rfl, rfl, _, congrArg V.bl dec_int, q⟩) fun _ Q q => ⟨_, rfl, .inl ⟨_, bs.length, rfl, .inl ⟨_, .inl (.inl hB1), by rw [List.length_map]⟩, _, _, rfl, rfl, _, congrArg V.bl (decide_eq_decide.mpr (by omega)), q⟩⟩) (fun h => ?_) fun n2 => ?_
  · exact ⟨_, rfl, _, rfl, S, wn, rfl, c1.st, w0, w5, fun v H2 c2 g => q v H2 (c1.trans c2) ((g.mono (nw_old st c1)).wide (Nat.le_refl 2) fun y hy => by cases hy)⟩
  · rw [Bool.and_eq_true] at h
    have h2 := of_decide_eq_true h.2
    refine ⟨_, rfl, _, rfl, _, rfl, .inl ⟨_, bs.length, rfl, .inl ⟨_, .inl (.inl hB1), by rw [List.length_map]⟩, S, _, rfl, c1.st, by omega, by omega, fun j H2 j0 j1 c2 _ => ?_⟩⟩
    have hB2 := c2.off _ _ nBS hB1
    have hj : j.toNat < bs.length := by omega
    have ej : ((j.toNat : Nat) : Int) = j := Int.toNat_of_nonneg j0
    refine ⟨B, _, j, .str bs[j.toNat], rfl, rfl, .inl (.inl hB2), ?_, by show 2 ≤ sizeLine; decide, fun p hp => ?_⟩
    · exact atI_int j0 (by rw [List.getElem?_map, List.getElem?_eq_getElem hj]; rfl)
    · have c12 := c1.trans c2
      exact q _ _ (c12.more (same_new hp _)) ⟨.name bs[j.toNat], .name (nw_new (c12.free st hp)), by rw [Ex.lvl]; decide, fun ks _ hb => by rw [Ex.ok]; exact hb _ (List.getElem_mem hj)⟩
  · have fin : ∀ (p : Addr) (ns : List Str) (H2 : Hp), Ch S H H2 → H2 p = some (.tup (ns.map V.str)) → p ≠ S → 0 < ns.length → ns.length ≤ 8 → (∀ y ∈ ns, y ∈ ks0) →
        tRet (tTup (tCons (tC (.str "name")) (tCons (tOp (rIxT K) (tVar 4) (tCal spDigit E0 (tCons (tVar 0) (tCons (tCB (fun xs H Q => (∃ x n, xs = [x] ∧ LenV K x H n ∧ Q (.int n) H) ∨ ∃ a kvs, xs = [V.ref a] ∧ Rd H a (.dK kvs) ∧ Q (.int kvs.length) H) (tCons (tVar 4) tNil)) tNil)))) tNil))) { nx := fun _ H' => Q .non H', rt := Q } [some (.ref S), some (.int wn), some (.ref B), some (.int i), some (.ref p)] H2 := fun p ns H2 c2 hp nps l0 l8 hn => by
      refine ⟨_, rfl, _, rfl, _, rfl, .inl ⟨_, ns.length, rfl, .inr ⟨_, .inl (.inl hp), by rw [List.length_map]⟩, S, _, rfl, c2.st, by omega, by omega, fun j H3 j0 j1 c3 _ => ?_⟩⟩
      have hp3 := c3.off _ _ nps hp
      have hj : j.toNat < ns.length := by omega
      have ej : ((j.toNat : Nat) : Int) = j := Int.toNat_of_nonneg j0
      refine ⟨p, _, j, .str ns[j.toNat], rfl, rfl, .inl (.inl hp3), ?_, by show 2 ≤ sizeLine; decide, fun r hr => ?_⟩
      · exact atI_int j0 (by rw [List.getElem?_map, List.getElem?_eq_getElem hj]; rfl)
      · have c23 := c2.trans c3
        exact q _ _ (c23.more (same_new hr _)) ⟨.name ns[j.toNat], .name (nw_new (c23.free st hr)), by rw [Ex.lvl]; decide, fun ks hk _ => by rw [Ex.ok]; exact hk _ (hn _ (List.getElem_mem hj))⟩
    refine setS ⟨by show 8 ≤ sizeLine; decide, fun p0 g0 => ⟨by show 2 ≤ sizeLine; decide, fun p1 g1 => ⟨by show 1 ≤ sizeLine; decide, fun p2 g2 => ⟨by show 1 ≤ sizeLine; decide, fun p3 g3 => ⟨by show 2 ≤ sizeLine; decide, fun p4 g4 => ⟨by show 2 ≤ sizeLine; decide, fun p5 g5 => ⟨by show 6 ≤ sizeLine; decide, fun t gt => ⟨_, rfl, ?_⟩⟩⟩⟩⟩⟩⟩⟩
    have s0 := same_new g0 (.tup [.str "n", .str "k", .str "b", .str "t", .str "l", .str "m", .str "r", .str "o"])
    have s1 := same_new g1 (.tup [.str "n", .str "k"])
    have s2 := same_new g2 (.tup [.str "b"])
    have s3 := same_new g3 (.tup [.str "t"])
    have s4 := same_new g4 (.tup [.str "l", .str "m"])
    have s5 := same_new g5 (.tup [.str "r", .str "o"])
    have s6 := same_new gt (.tup [.ref p0, .ref p1, .ref p2, .ref p3, .ref p4, .ref p5])
    have sA := ((((((s0.trans s1).trans s2).trans s3).trans s4).trans s5).trans s6)
    have cA := c1.more sA
    have nS : ∀ b, H1 b = none → b ≠ S := fun b hb z => by obtain ⟨u, e⟩ := c1.st.some; rw [← z, hb] at e; cases e
    have hw : wn = 0 ∨ wn = 1 ∨ wn = 2 ∨ wn = 3 ∨ wn = 4 ∨ wn = 5 := by omega
    rcases hw with e | e | e | e | e | e
    · subst e
      exact ⟨t, _, 0, .ref p0, rfl, rfl, .inl (.inl upd_same), rfl, fin p0 ["n", "k", "b", "t", "l", "m", "r", "o"] _ cA ((((((s1.trans s2).trans s3).trans s4).trans s5).trans s6) _ _ upd_same) (nS _ g0) (by decide) (by decide) (by decide +kernel)⟩
    · subst e
      exact ⟨t, _, 1, .ref p1, rfl, rfl, .inl (.inl upd_same), rfl, fin p1 ["n", "k"] _ cA (((((s2.trans s3).trans s4).trans s5).trans s6) _ _ upd_same) (nS _ (s0.free g1)) (by decide) (by decide) (by decide +kernel)⟩
    · subst e
      exact ⟨t, _, 2, .ref p2, rfl, rfl, .inl (.inl upd_same), rfl, fin p2 ["b"] _ cA ((((s3.trans s4).trans s5).trans s6) _ _ upd_same) (nS _ ((s0.trans s1).free g2)) (by decide) (by decide) (by decide +kernel)⟩
    · subst e
      exact ⟨t, _, 3, .ref p3, rfl, rfl, .inl (.inl upd_same), rfl, fin p3 ["t"] _ cA (((s4.trans s5).trans s6) _ _ upd_same) (nS _ (((s0.trans s1).trans s2).free g3)) (by decide) (by decide) (by decide +kernel)⟩
    · subst e
      exact ⟨t, _, 4, .ref p4, rfl, rfl, .inl (.inl upd_same), rfl, fin p4 ["l", "m"] _ cA ((s5.trans s6) _ _ upd_same) (nS _ ((((s0.trans s1).trans s2).trans s3).free g4)) (by decide) (by decide) (by decide +kernel)⟩
    · subst e
      exact ⟨t, _, 5, .ref p5, rfl, rfl, .inl (.inl upd_same), rfl, fin p5 ["r", "o"] _ cA (s6 _ _ upd_same) (nS _ (((((s0.trans s1).trans s2).trans s3).trans s4).free g5)) (by decide) (by decide) (by decide +kernel)⟩
end
end Vk
set_option maxHeartbeats 4000000
/-! the law draws: functions, lists, operators -/
namespace Vk
open PySem PySem.Spec PyProof.Rows L2
def spExp (i : Nat) : Sp := fun vs H Q _ => ∃ S B, ∃ l : Nat, ∃ (wn : Int) (bs : List Str), vs = [.ref S, .int (l : Nat), .int wn, .ref B] ∧ l + 1 ≤ i ∧ St S H ∧ B ≠ S ∧ H B = some (.lst (bs.map V.str)) ∧ bs.length + l ≤ 100 ∧ (∀ y ∈ bs, y.length ≤ 100) ∧ 0 ≤ wn ∧ wn ≤ 5 ∧ ∀ v H', Ch S H H' → GoodE bs (l + 2) (nw H H') v → Q v H'
def spMany (i : Nat) : Sp := fun vs H Q _ => ∃ S B, ∃ l : Nat, ∃ bs : List Str, vs = [.ref S, .int (l : Nat), .ref B] ∧ l + 1 ≤ i ∧ St S H ∧ B ≠ S ∧ H B = some (.lst (bs.map V.str)) ∧ bs.length + l ≤ 100 ∧ (∀ y ∈ bs, y.length ≤ 100) ∧
  ∀ D acc H', Ch S H H' → nw H H' D = some (.lst acc) → acc.length ≤ 3 → (∀ y ∈ acc, GoodE bs (l + 2) (nw H H') y) → Q (.ref D) H'
/-- one more level -/
def spExq (i : Nat) : Sp := fun vs H Q _ => ∃ S B, ∃ l : Nat, ∃ (wn : Int) (bs : List Str), vs = [.ref S, .int (l : Nat), .int wn, .ref B] ∧ l + 1 ≤ i ∧ St S H ∧ B ≠ S ∧ H B = some (.lst (bs.map V.str)) ∧ bs.length + l ≤ 99 ∧ (∀ y ∈ bs, y.length ≤ 100) ∧ 0 ≤ wn ∧ wn ≤ 5 ∧ ∀ v H', Ch S H H' → GoodE bs (l + 3) (nw H H') v → Q v H'
theorem elsE {bs : List Str} {m : Nat} {G : Hp} : ∀ {vs : List V}, (∀ y ∈ vs, GoodE bs m G y) → ∃ xs, EReps G vs xs ∧ xs.lvl ≤ m ∧ xs.len = vs.length ∧ ∀ ks, (∀ y ∈ ks0, y ∈ ks) → (∀ y ∈ bs, y ∈ ks) → xs.ok ks
  | [], _ => ⟨.nil, .nil, by rw [Exs.lvl]; exact Nat.zero_le _, rfl, fun _ _ _ => by rw [Exs.ok]; trivial⟩
  | v :: vs, h => by
    obtain ⟨x, r, l, o⟩ := h v List.mem_cons_self
    obtain ⟨xs, rs, ls, n, os⟩ := elsE fun y hy => h y (List.mem_cons_of_mem _ hy)
    exact ⟨.cons x xs, .cons r rs, by rw [Exs.lvl]; exact Nat.max_le.mpr ⟨l, ls⟩, by show xs.len + 1 = _; rw [n]; rfl, fun ks h1 h2 => by rw [Exs.ok]; exact ⟨o ks h1 h2, os ks h1 h2⟩⟩
section
variable {w : World} {K : PySem.W.Frag} {mg : Str → Option Value} {base : Heap} {n k : Nat}
abbrev s_L_many : Stmt := topS 93
theorem sc_L_many : FnScope ["_law_state", "_law_levels", "_law_bound", "_law_k"] ["_law_state", "_law_levels", "_law_bound"] (defScope s_L_many) := ⟨rfl, rfl, rfl, by decide +kernel, rfl, by decide +kernel, by decide +kernel⟩
theorem cal_L_many (D : DefA K mg "_law_many" s_L_many) (z : Nm mg) (hk : 1 ≤ k) (c__law_digit : Cal PP w K mg base CX0 1 "_law_digit" ["_law_state", "_law_many_here"] spDigit) (c__law_expression : Cal PP w K mg base CX0 k "_law_expression" ["_law_state", "_law_levels", "_law_want", "_law_bound"] (spExp n)) :
    Cal PP w K mg base CX0 (k + 1) "_law_many" ["_law_state", "_law_levels", "_law_bound"] (spMany n) := by
  have c__law_digit := c__law_digit.mono hk
  refine cal_mk D sc_L_many (fun _ _ _ _ _ _ us hl => match us, hl with | [_, _, _], _ => rfl) (fun vs H Q E h => ?_) (fun f cdv A outer s H vs Q E hr h => ?_)
  · obtain ⟨S, B, l, bs, rfl, _⟩ := h
    rfl
  obtain ⟨S, B, l, bs, rfl, hl, st, nBS, hB, lb, hb, q⟩ := h
  refine ⟨_, (pss_one (ps_ret (pe_lc (own := [("_law_k", 3)]) (g := gName 3) (tt := tYes) rfl sc_L_many.nd (pi_range1 (by rfl) z.range (pa_cons (pe_cal c__law_digit hr (by rfl) (pa_cons (pv 0) (pa_cons pe_int pa_nil))) pa_nil)) (blkOk_by (N := ["_law_state", "_law_levels", "_law_bound", "_law_k"]) (sc := defScope s_L_many) (by decide +kernel)) (fun _ _ _ _ _ => pg_name (i := 3) sc_L_many.nd rfl (Or.inl rfl)) (fun _ _ _ _ _ => pts_nil) (fun _ _ _ _ _ => (pe_cal c__law_expression hr (by rfl) (pa_cons (pv 0) (pa_cons (pv 1) (pa_cons (pe_cal c__law_digit hr (by rfl) (pa_cons (pv 0) (pa_cons pe_int pa_nil))) (pa_cons (pv 2) pa_nil))))))))), ?_⟩
  refine dig rfl rfl st (by decide) (by decide) fun m0 H1 a0 a1 c1 _ => ⟨m0, rfl, by omega, by omega, ?_⟩
  refine lc_ch (n := m0.toNat) walk_range c1.st (GoodE bs (l + 2)) (fun G G' y s g => g.mono s) (small1000 (by omega)) (fun _ _ => trivial) (fun j x H2 H' Qk hj c2 hy => ⟨hy.1, fun qk => ?_⟩) fun D acc H2 la c2 hD hel => ?_
  · have hB2 := c2.off _ _ nBS (c1.off _ _ nBS hB)
    exact ⟨_, rfl, _, rfl, dig rfl rfl c2.st (by decide) (by decide) fun i H3 i0 i1 c3 _ => ⟨_, rfl, S, B, l, i, bs, rfl, hl, c3.st, nBS, c3.off _ _ nBS hB2, lb, hb, i0, by omega, fun v H4 c4 g => qk v H4 (c3.trans c4) (g.mono (nw_old c2.st c3))⟩⟩
  · have s := nw_old (H2 := H2) st c1
    exact q D acc H2 (c1.trans c2) (s _ _ hD) (by omega) fun y hy => (hel y hy).mono s
section
variable {σ : L2.St} {H : Hp} {te : TE}
theorem pp1 {tv : TE} {r : List (TE × TE)} {x : V} {Q : List (V × V) → Hp → Prop} (h : tv σ H fun y H2 => tPairs r σ H2 fun ps H3 => Q ((x, y) :: ps) H3) : tPairs ((tC x, tv) :: r) σ H Q := h
theorem pp0 {Q : List (V × V) → Hp → Prop} (h : Q [] H) : tPairs [] σ H Q := h
theorem lstA {Q : VK} {m : Int} {i : Nat} {S : Addr} (h1 : σ[i]? = some (some (.ref S))) (st : St S H) (h0 : 0 < m) (hm : m < 1073741824) (q : ∀ i H', 0 ≤ i → i < m → Ch S H H' → ∀ p, H' p = none → Q (.ref p) (upd H' p (.lst [.int i]))) : tLst (tCons (tCal spDigit E0 (tCons (tVar i) (tCons (tC (.int m)) tNil))) tNil) σ H Q :=
  dig (E := E0) h1 rfl st h0 hm fun i H' a b c _ => ⟨by show 1 ≤ sizeLine; decide, q i H' a b c⟩
theorem lstB {Q : VK} {m n : Int} {i : Nat} {S : Addr} (h1 : σ[i]? = some (some (.ref S))) (st : St S H) (h0 : 0 < m) (hm : m < 1073741824) (q : ∀ i H', 0 ≤ i → i < m → Ch S H H' → ∀ p, H' p = none → Q (.ref p) (upd H' p (.lst [.int (n + i)]))) : tLst (tCons (tOp (rI0 fun i j => .int (i + j)) (tC (.int n)) (tCal spDigit E0 (tCons (tVar i) (tCons (tC (.int m)) tNil)))) tNil) σ H Q :=
  dig (E := E0) h1 rfl st h0 hm fun i H' a b c _ => ⟨_, _, rfl, rfl, by show 1 ≤ sizeLine; decide, q i H' a b c⟩
theorem lstC {Q : VK} {a : V} (q : ∀ p, H p = none → Q (.ref p) (upd H p (.lst [a]))) : tLst (tCons (tC a) tNil) σ H Q := ⟨by show 1 ≤ sizeLine; decide, q⟩
theorem lstD {Q : VK} {a b : V} (q : ∀ p, H p = none → Q (.ref p) (upd H p (.lst [a, b]))) : tLst (tCons (tC a) (tCons (tC b) tNil)) σ H Q := ⟨by show 2 ≤ sizeLine; decide, q⟩
theorem lstE {Q : VK} {a b c : V} {i : Nat} (h1 : σ[i]? = some (some c)) (q : ∀ p, H p = none → Q (.ref p) (upd H p (.lst [a, b, c]))) : tLst (tCons (tC a) (tCons (tC b) (tCons (tVar i) tNil))) σ H Q := ⟨_, h1, by show 3 ≤ sizeLine; decide, q⟩
end
/-- the reading of its last rows -/
def fnRet (K : PySem.W.Frag) (n : Nat) : TS := tRet (tTup (tCons (tC (.str "function")) (tCons (tVar 5) (tCons (tLc (iList K (tVar 6)) (gName 7) tYes (tCal (spExp n) E0 (tCons (tVar 0) (tCons (tVar 1) (tCons (tVar 7) (tCons (tVar 3) tNil))))) [7]) tNil))))
def fnDisp : TE := (tDisp [(tC (.str "length"), tLst (tCons (tOp (rI0 fun i j => .int (i + j)) (tC (.int 3)) (tCal spDigit E0 (tCons (tVar 0) (tCons (tC (.int 3)) tNil)))) tNil)), (tC (.str "text"), tLst (tCons (tCal spDigit E0 (tCons (tVar 0) (tCons (tC (.int 4)) tNil))) tNil)),
          (tC (.str "get"), tLst (tCons (tC (.int 0)) (tCons (tC (.int 0)) (tCons (tVar 2) tNil)))), (tC (.str "keys"), tLst (tCons (tC (.int 5)) tNil)), (tC (.str "min"), tLst (tCons (tC (.int 1)) (tCons (tC (.int 1)) tNil))), (tC (.str "max"), tLst (tCons (tC (.int 1)) (tCons (tC (.int 1)) tNil)))])
theorem fn_ret {S B : Addr} {l : Nat} {wn : Int} {bs : List Str} {H : Hp} {Q : VK} (hl : l + 1 ≤ n) (st : St S H) (nBS : B ≠ S) (hB : H B = some (.lst (bs.map V.str))) (lb : bs.length + l ≤ 99) (hb : ∀ y ∈ bs, y.length ≤ 100) (w0 : 0 ≤ wn) (w5 : wn ≤ 5)
    (q : ∀ v H', Ch S H H' → GoodE bs (l + 3) (nw H H') v → Q v H')
    (f : Fn) (t L : Addr) (is : List Int) (H2 : Hp) (c2 : Ch S H H2) (hL : H2 L = some (.lst (is.map V.int))) (nLS : L ≠ S) (la : is.length = f.ar) (hi : ∀ i ∈ is, 0 ≤ i ∧ i ≤ 5) :
    fnRet K n { nx := fun _ H' => Q .non H', rt := Q } [some (.ref S), some (.int (l : Nat)), some (.int wn), some (.ref B), some (.ref t), some (.str f.s), some (.ref L), none] H2 := by
  have comp : ∀ Q' : VK, (∀ D acc H3, acc.length = is.length → Ch S H2 H3 → nw H2 H3 D = some (.lst acc) → (∀ y ∈ acc, GoodE bs (l + 2) (nw H2 H3) y) → Q' (.ref D) H3) → tLc (iList K (tVar 6)) (gName 7) tYes (tCal (spExp n) E0 (tCons (tVar 0) (tCons (tVar 1) (tCons (tVar 7) (tCons (tVar 3) tNil))))) [7] [some (.ref S), some (.int (l : Nat)), some (.int wn), some (.ref B), some (.ref t), some (.str f.s), some (.ref L), none] H2 Q' := fun Q' q' => by
    refine ⟨_, rfl, L, rfl, ⟨_, .inl (.inl hL)⟩, ?_⟩
    have hB2 := c2.off _ _ nBS hB
    refine lc_ch (n := (is.map V.int).length) walk_list c2.st (GoodE bs (l + 2)) (fun G G' y s g => g.mono s) (small1000 (by rw [List.length_map, la]; cases f <;> decide)) (fun H3 c3 => .inl (.inl (c3.off _ _ nLS hL))) (fun j x H3 H' Qk hj c3 hy => ⟨hy.1, fun qk => ?_⟩) fun D acc H3 la c3 hD hel => q' D acc H3 (by rw [la, List.length_map]) c3 hD hel
    have hx := hy.2
    rw [List.getElem?_map] at hx
    obtain ⟨i, hi2, rfl⟩ := Option.map_eq_some_iff.mp hx
    have hi3 := hi i (List.mem_of_getElem? hi2)
    exact ⟨_, rfl, _, rfl, _, rfl, _, rfl, S, B, l, i, bs, rfl, hl, c3.st, nBS, c3.off _ _ nBS hB2, by omega, hb, hi3.1, hi3.2, fun v H4 c4 g => qk v H4 c4 g⟩
  refine ⟨_, rfl, comp _ fun D acc H3 la2 c3 hD hel => ⟨by show 3 ≤ sizeLine; decide, fun p hp => ?_⟩⟩
  have c23 := c2.trans c3
  have sN : Same (nw H2 H3) (nw H (upd H3 p (.tup [.str "function", .str f.s, .ref D]))) := fun b o e => nw_upd hp b o (nw_old st c2 b o e)
  obtain ⟨xs, rs, ls, ln, os⟩ := elsE fun y hy => (hel y hy).mono sN
  refine q _ _ (c23.more (same_new hp _)) ⟨.fn f xs, .fn (nw_new (c23.free st hp)) (sN _ _ hD) rs, by rw [Ex.lvl]; omega, fun ks h1 h2 => ?_⟩
  rw [Ex.ok]
  exact ⟨by rw [ln, la2, la], os ks h1 h2⟩
theorem fn_kin {S B : Addr} {l : Nat} {wn : Int} {bs : List Str} {H : Hp} {Q : VK} (hl : l + 1 ≤ n) (st : St S H) (nBS : B ≠ S) (hB : H B = some (.lst (bs.map V.str))) (lb : bs.length + l ≤ 99) (hb : ∀ y ∈ bs, y.length ≤ 100) (w0 : 0 ≤ wn) (w5 : wn ≤ 5)
    (q : ∀ v H', Ch S H H' → GoodE bs (l + 3) (nw H H') v → Q v H')
    (f : Fn) (t : Addr) (H2 : Hp) (c2 : Ch S H H2) :
    tSeq (tAsg (tDGet fnDisp (tVar 5)) (gName 6)) (fnRet K n) { nx := fun _ H' => Q .non H', rt := Q } [some (.ref S), some (.int (l : Nat)), some (.int wn), some (.ref B), some (.ref t), some (.str f.s), none, none] H2 := by
  have nS : ∀ b, H b = none → b ≠ S := fun b hb z => by obtain ⟨u, e⟩ := st.some; rw [← z, hb] at e; cases e
  refine setS fun D hD => ?_
  have nDS : D ≠ S := nS D (c2.free st hD)
  have sD := same_new hD (.dK [])
  have hD0 := upd_same (H := H2) (a := D) (o := .dK [])
  refine pp1 (lstB rfl (c2.st.same sD) (by decide) (by decide) fun i1 H3 a0 a1 c3 L1 g1 => ?_)
  refine pp1 (lstA rfl (c3.st.same (same_new g1 _)) (by decide) (by decide) fun i2 H5 b0 b1 c5 L2 g2 => ?_)
  refine pp1 (lstE rfl fun L3 g3 => ?_)
  refine pp1 (lstC fun L4 g4 => ?_)
  refine pp1 (lstD fun L5 g5 => ?_)
  refine pp1 (lstD fun L6 g6 => pp0 ?_)
  have s1 := same_new g1 (.lst [.int (3 + i1)])
  have s2 := same_new g2 (.lst [.int i2])
  have s3 := same_new g3 (.lst [.int 0, .int 0, .int wn])
  have s4 := same_new g4 (.lst [.int 5])
  have s5 := same_new g5 (.lst [.int 1, .int 1])
  have s6 := same_new g6 (.lst [.int 1, .int 1])
  have sE := (((s2.trans s3).trans s4).trans s5).trans s6
  have c3' : Ch S H2 H3 := ((Ch.refl c2.st).more sD).trans c3
  have cE : Ch S H2 _ := ((c3'.more s1).trans c5).more sE
  have d3 := c3.off _ _ nDS hD0
  have d5 := c5.off _ _ nDS (s1 _ _ d3)
  have dE := sE _ _ d5
  have n1 : L1 ≠ S := fun z => by obtain ⟨u, e⟩ := c3.st.some; rw [← z, g1] at e; cases e
  have nS2 : ∀ b, H5 b = none → b ≠ S := fun b hb z => by obtain ⟨u, e⟩ := c5.st.some; rw [← z, hb] at e; cases e
  have n2 := nS2 L2 g2
  have n3 := nS2 L3 (s2.free g3)
  have n4 := nS2 L4 ((s2.trans s3).free g4)
  have n5 := nS2 L5 (((s2.trans s3).trans s4).free g5)
  have n6 := nS2 L6 ((((s2.trans s3).trans s4).trans s5).free g6)
  refine ⟨dE, [((Sum.inr "length" : Key), V.ref L1), ((Sum.inr "text" : Key), V.ref L2), ((Sum.inr "get" : Key), V.ref L3), ((Sum.inr "keys" : Key), V.ref L4), ((Sum.inr "min" : Key), V.ref L5), ((Sum.inr "max" : Key), V.ref L6)], rfl, by show 6 ≤ 15; decide, ?_⟩
  have nd : ([Sum.inr "length", Sum.inr "text", Sum.inr "get", Sum.inr "keys", Sum.inr "min", Sum.inr "max"] : List Key).Nodup := by decide +kernel
  rw [merge_new (by exact nd)]
  obtain ⟨kvs, hk⟩ : ∃ kvs : List (Key × V), kvs = [((Sum.inr "length" : Key), V.ref L1), ((Sum.inr "text" : Key), V.ref L2), ((Sum.inr "get" : Key), V.ref L3), ((Sum.inr "keys" : Key), V.ref L4), ((Sum.inr "min" : Key), V.ref L5), ((Sum.inr "max" : Key), V.ref L6)] := ⟨_, rfl⟩
  have ndk : (kvs.map (·.1)).Nodup := by rw [hk]; exact nd
  have cF : ∀ kv, Ch S H2 (upd (upd (upd (upd (upd (upd H5 L2 (.lst [.int i2])) L3 (.lst [.int 0, .int 0, .int wn])) L4 (.lst [.int 5])) L5 (.lst [.int 1, .int 1])) L6 (.lst [.int 1, .int 1])) D (.dK kv)) := fun kv => ⟨by
    obtain ⟨n, h0, e⟩ := cE.st
    exact ⟨n, h0, by rw [upd_ne (fun z => nDS z.symm)]; exact e⟩, fun b o nb e => by rw [upd_ne (ne_of_none e hD)]; exact cE.off b o nb e⟩
  have atL : ∀ (L : Addr) (o : HO) kv, (∀ z, o ≠ .dK z) → (upd (upd (upd (upd (upd H5 L2 (.lst [.int i2])) L3 (.lst [.int 0, .int 0, .int wn])) L4 (.lst [.int 5])) L5 (.lst [.int 1, .int 1])) L6 (.lst [.int 1, .int 1])) L = some o →
      (upd (upd (upd (upd (upd (upd H5 L2 (.lst [.int i2])) L3 (.lst [.int 0, .int 0, .int wn])) L4 (.lst [.int 5])) L5 (.lst [.int 1, .int 1])) L6 (.lst [.int 1, .int 1])) D (.dK kv)) L = some o := fun L o kv ho e => by
    rw [upd_ne (fun z => by rw [z, dE] at e; cases e; exact ho _ rfl)]
    exact e
  have hL1 := sE _ _ (c5.off _ _ n1 (upd_same (H := H3) (a := L1) (o := .lst [.int (3 + i1)])))
  have hL2 := (((s3.trans s4).trans s5).trans s6) _ _ (upd_same (H := H5) (a := L2) (o := .lst [.int i2]))
  have hL3 := ((s4.trans s5).trans s6) _ _ (upd_same (a := L3) (o := .lst [.int 0, .int 0, .int wn]))
  have hL4 := (s5.trans s6) _ _ (upd_same (a := L4) (o := .lst [.int 5]))
  have hL5 := s6 _ _ (upd_same (a := L5) (o := .lst [.int 1, .int 1]))
  refine ⟨_, rfl, D, ?_⟩
  rw [← hk]
  cases f with
  | length => exact ⟨.ref L1, rfl, .inl ⟨kvs, .inr (Fn.s .length), .inl upd_same, rfl, (valV_at ndk (i := 0) (by rw [hk]; rfl)).symm⟩, fn_ret hl st nBS hB lb hb w0 w5 q .length t L1 [3 + i1] _ (c2.trans (cF kvs)) (atL _ _ _ (fun _ z => by cases z) hL1) n1 rfl fun i hi => by rw [List.mem_singleton.mp hi]; omega⟩
  | text => exact ⟨.ref L2, rfl, .inl ⟨kvs, .inr (Fn.s .text), .inl upd_same, rfl, (valV_at ndk (i := 1) (by rw [hk]; rfl)).symm⟩, fn_ret hl st nBS hB lb hb w0 w5 q .text t L2 [i2] _ (c2.trans (cF kvs)) (atL _ _ _ (fun _ z => by cases z) hL2) n2 rfl fun i hi => by rw [List.mem_singleton.mp hi]; omega⟩
  | get => exact ⟨.ref L3, rfl, .inl ⟨kvs, .inr (Fn.s .get), .inl upd_same, rfl, (valV_at ndk (i := 2) (by rw [hk]; rfl)).symm⟩, fn_ret hl st nBS hB lb hb w0 w5 q .get t L3 [0, 0, wn] _ (c2.trans (cF kvs)) (atL _ _ _ (fun _ z => by cases z) hL3) n3 rfl fun i hi => by
      rcases List.mem_cons.mp hi with h | hi
      · omega
      rcases List.mem_cons.mp hi with h | hi
      · omega
      · rw [List.mem_singleton.mp hi]; omega⟩
  | keys => exact ⟨.ref L4, rfl, .inl ⟨kvs, .inr (Fn.s .keys), .inl upd_same, rfl, (valV_at ndk (i := 3) (by rw [hk]; rfl)).symm⟩, fn_ret hl st nBS hB lb hb w0 w5 q .keys t L4 [5] _ (c2.trans (cF kvs)) (atL _ _ _ (fun _ z => by cases z) hL4) n4 rfl fun i hi => by rw [List.mem_singleton.mp hi]; omega⟩
  | min => exact ⟨.ref L5, rfl, .inl ⟨kvs, .inr (Fn.s .min), .inl upd_same, rfl, (valV_at ndk (i := 4) (by rw [hk]; rfl)).symm⟩, fn_ret hl st nBS hB lb hb w0 w5 q .min t L5 [1, 1] _ (c2.trans (cF kvs)) (atL _ _ _ (fun _ z => by cases z) hL5) n5 rfl fun i hi => by
      rcases List.mem_cons.mp hi with h | hi
      · omega
      · rw [List.mem_singleton.mp hi]; omega⟩
  | max => exact ⟨.ref L6, rfl, .inl ⟨kvs, .inr (Fn.s .max), .inl upd_same, rfl, (valV_at ndk (i := 5) (by rw [hk]; rfl)).symm⟩, fn_ret hl st nBS hB lb hb w0 w5 q .max t L6 [1, 1] _ (c2.trans (cF kvs)) (atL _ _ _ (fun _ z => by cases z) upd_same) n6 rfl fun i hi => by
      rcases List.mem_cons.mp hi with h | hi
      · omega
      · rw [List.mem_singleton.mp hi]; omega⟩
theorem fn_pick {S B : Addr} {l : Nat} {wn : Int} {bs : List Str} {H : Hp} {Q : VK} (hl : l + 1 ≤ n) (st : St S H) (nBS : B ≠ S) (hB : H B = some (.lst (bs.map V.str))) (lb : bs.length + l ≤ 99) (hb : ∀ y ∈ bs, y.length ≤ 100) (w0 : 0 ≤ wn) (w5 : wn ≤ 5)
    (q : ∀ v H', Ch S H H' → GoodE bs (l + 3) (nw H H') v → Q v H')
    (p0 p1 p2 p3 p4 p5 t p : Addr) (fs : List Fn) (wj : Nat) (H2 : Hp) (c2 : Ch S H H2) (ht : H2 t = some (.tup [.ref p0, .ref p1, .ref p2, .ref p3, .ref p4, .ref p5])) (hp : ([V.ref p0, .ref p1, .ref p2, .ref p3, .ref p4, .ref p5] : List V)[wj]? = some (.ref p)) (ew : wn = (wj : Nat))
    (hH : H2 p = some (.tup (fs.map fun f => V.str f.s))) (np : p ≠ S) (l0 : 0 < fs.length) (l4 : fs.length ≤ 4) :
    tOp (rIxT K) (tOp (rIxT K) (tVar 4) (tVar 2)) (tCal spDigit E0 (tCons (tVar 0) (tCons (tCB (fun xs H Q => (∃ x n, xs = [x] ∧ LenV K x H n ∧ Q (.int n) H) ∨ ∃ a kvs, xs = [V.ref a] ∧ Rd H a (.dK kvs) ∧ Q (.int kvs.length) H) (tCons (tOp (rIxT K) (tVar 4) (tVar 2)) tNil)) tNil))) [some (.ref S), some (.int (l : Nat)), some (.int wn), some (.ref B), some (.ref t), none, none, none] H2
      fun v H3 => tSeq (tAsg (tDGet fnDisp (tVar 5)) (gName 6)) (fnRet K n) { nx := fun _ H' => Q .non H', rt := Q } [some (.ref S), some (.int (l : Nat)), some (.int wn), some (.ref B), some (.ref t), some v, none, none] H3 := by
  refine ⟨_, rfl, _, rfl, t, _, wn, .ref p, rfl, rfl, .inl (.inl ht), by rw [ew]; exact atI_nat hp, _, rfl, ⟨_, rfl, _, rfl, t, _, wn, .ref p, rfl, rfl, .inl (.inl ht), by rw [ew]; exact atI_nat hp, .inl ⟨_, fs.length, rfl, .inr ⟨_, .inl (.inl hH), by rw [List.length_map]⟩, S, _, rfl, c2.st, by omega, by omega, fun j H3 j0 j1 c3 _ => ?_⟩⟩⟩
  have hp3 := c3.off _ _ np hH
  have hj : j.toNat < fs.length := by omega
  exact ⟨p, _, j, .str fs[j.toNat].s, rfl, rfl, .inl (.inl hp3), atI_int j0 (by rw [List.getElem?_map, List.getElem?_eq_getElem hj]; rfl), fn_kin hl st nBS hB lb hb w0 w5 q fs[j.toNat] t H3 (c2.trans c3)⟩
abbrev s_L_function : Stmt := topS 92
theorem sc_L_function : FnScope ["_law_state", "_law_levels", "_law_want", "_law_bound", "_law_names", "_law_name", "_law_kinds", "_law_kind_here"] ["_law_state", "_law_levels", "_law_want", "_law_bound"] (defScope s_L_function) := ⟨rfl, rfl, rfl, by decide +kernel, rfl, by decide +kernel, by decide +kernel⟩
theorem cal_L_function (D : DefA K mg "_law_function" s_L_function) (z : Nm mg) (hk : 1 ≤ k) (c__law_digit : Cal PP w K mg base CX0 1 "_law_digit" ["_law_state", "_law_many_here"] spDigit) (c__law_expression : Cal PP w K mg base CX0 k "_law_expression" ["_law_state", "_law_levels", "_law_want", "_law_bound"] (spExp n)) :
    Cal PP w K mg base CX0 (k + 1) "_law_function" ["_law_state", "_law_levels", "_law_want", "_law_bound"] (spExq n) := by
  have c__law_digit := c__law_digit.mono hk
  refine cal_mk D sc_L_function (fun _ _ _ _ _ _ us hl => match us, hl with | [_, _, _, _], _ => rfl) (fun vs H Q E h => ?_) (fun f cdv A outer s H vs Q E hr h => ?_)
  · obtain ⟨S, B, l, wn, bs, rfl, _⟩ := h
    rfl
  obtain ⟨S, B, l, wn, bs, rfl, hl, st, nBS, hB, lb, hb, w0, w5, q⟩ := h
  have hu := hu_of hr
  refine ⟨_, (pss_cons (ps_set (i := 4) sc_L_function.nd rfl (Or.inl rfl) (pe_tup (pa_cons (pe_tup (pa_cons pe_str (pa_cons pe_str pa_nil))) (pa_cons (pe_tup (pa_cons pe_str (pa_cons pe_str (pa_cons pe_str (pa_cons pe_str pa_nil))))) (pa_cons (pe_tup (pa_cons pe_str pa_nil)) (pa_cons (pe_tup (pa_cons pe_str (pa_cons pe_str pa_nil))) (pa_cons (pe_tup (pa_cons pe_str (pa_cons pe_str pa_nil))) (pa_cons (pe_tup (pa_cons pe_str pa_nil)) pa_nil))))))))
    (pss_cons (ps_set (i := 5) sc_L_function.nd rfl (Or.inl rfl) (pe_ix ix_tup (pe_ix ix_tup (pv 4) (pv 2) (fun _ _ => rfl)) (pe_cal c__law_digit hr (by rfl) (pa_cons (pv 0) (pa_cons (pe_callB (call_lenK (K := K) rfl) (by rfl) z.len (by decide +kernel) (pa_cons (pe_ix ix_tup (pv 4) (pv 2) (fun _ _ => rfl)) pa_nil)) pa_nil))) (fun _ _ => rfl)))
    (pss_cons (ps_set (i := 6) sc_L_function.nd rfl (Or.inl rfl) (pe_dget hu (pe_disp (pps_cons pe_str (pe_lst (pa_cons (pe_op op_add pe_int (pe_cal c__law_digit hr (by rfl) (pa_cons (pv 0) (pa_cons pe_int pa_nil)))) pa_nil)) (pps_cons pe_str (pe_lst (pa_cons (pe_cal c__law_digit hr (by rfl) (pa_cons (pv 0) (pa_cons pe_int pa_nil))) pa_nil)) (pps_cons pe_str (pe_lst (pa_cons pe_int (pa_cons pe_int (pa_cons (pv 2) pa_nil)))) (pps_cons pe_str (pe_lst (pa_cons pe_int pa_nil)) (pps_cons pe_str (pe_lst (pa_cons pe_int (pa_cons pe_int pa_nil))) (pps_cons pe_str (pe_lst (pa_cons pe_int (pa_cons pe_int pa_nil))) pps_nil)))))) (by rfl) (by rfl) (fun z => by cases z) (by decide)) (pv 5) (fun _ _ => rfl)))
    (pss_one (ps_ret (pe_tup (pa_cons pe_str (pa_cons (pv 5) (pa_cons (pe_lc (own := [("_law_kind_here", 7)]) (g := gName 7) (tt := tYes) rfl sc_L_function.nd (pi_list (pv 6)) (blkOk_by (N := ["_law_state", "_law_levels", "_law_want", "_law_bound", "_law_names", "_law_name", "_law_kinds", "_law_kind_here"]) (sc := defScope s_L_function) (by decide +kernel)) (fun _ _ _ _ _ => pg_name (i := 7) sc_L_function.nd rfl (Or.inl rfl)) (fun _ _ _ _ _ => pts_nil) (fun _ _ _ _ _ => (pe_cal c__law_expression hr (by rfl) (pa_cons (pv 0) (pa_cons (pv 1) (pa_cons (pv 7) (pa_cons (pv 3) pa_nil))))))) pa_nil))))))))), ?_⟩
  have nS : ∀ b, H b = none → b ≠ S := fun b hb z => by obtain ⟨u, e⟩ := st.some; rw [← z, hb] at e; cases e
  -- the call, its kinds known
  -- the names
  refine setS ⟨by show 2 ≤ sizeLine; decide, fun p0 g0 => ⟨by show 4 ≤ sizeLine; decide, fun p1 g1 => ⟨by show 1 ≤ sizeLine; decide, fun p2 g2 => ⟨by show 2 ≤ sizeLine; decide, fun p3 g3 => ⟨by show 2 ≤ sizeLine; decide, fun p4 g4 => ⟨by show 1 ≤ sizeLine; decide, fun p5 g5 => ⟨by show 6 ≤ sizeLine; decide, fun t gt => ?_⟩⟩⟩⟩⟩⟩⟩
  have s0 := same_new g0 (.tup [.str "get", .str "text"])
  have s1 := same_new g1 (.tup [.str "length", .str "min", .str "max", .str "get"])
  have s2 := same_new g2 (.tup [.str "get"])
  have s3 := same_new g3 (.tup [.str "text", .str "get"])
  have s4 := same_new g4 (.tup [.str "keys", .str "get"])
  have s5 := same_new g5 (.tup [.str "get"])
  have s6 := same_new gt (.tup [.ref p0, .ref p1, .ref p2, .ref p3, .ref p4, .ref p5])
  have sA := ((((((s0.trans s1).trans s2).trans s3).trans s4).trans s5).trans s6)
  have cA : Ch S H _ := (Ch.refl st).more sA
  have nt : t ≠ S := nS _ (((((((s0.trans s1).trans s2).trans s3).trans s4).trans s5)).free gt)
  have ht := upd_same (H := upd (upd (upd (upd (upd (upd H p0 (.tup [.str "get", .str "text"])) p1 (.tup [.str "length", .str "min", .str "max", .str "get"])) p2 (.tup [.str "get"])) p3 (.tup [.str "text", .str "get"])) p4 (.tup [.str "keys", .str "get"])) p5 (.tup [.str "get"])) (a := t) (o := .tup [.ref p0, .ref p1, .ref p2, .ref p3, .ref p4, .ref p5])
  have hw : wn = 0 ∨ wn = 1 ∨ wn = 2 ∨ wn = 3 ∨ wn = 4 ∨ wn = 5 := by omega
  rcases hw with e | e | e | e | e | e
  · exact setS (fn_pick hl st nBS hB lb hb w0 w5 q p0 p1 p2 p3 p4 p5 t p0 [.get, .text] 0 _ cA ht rfl (by rw [e]; rfl) ((((((s1.trans s2).trans s3).trans s4).trans s5).trans s6) _ _ upd_same) (nS _ g0) (by decide) (by decide))
  · exact setS (fn_pick hl st nBS hB lb hb w0 w5 q p0 p1 p2 p3 p4 p5 t p1 [.length, .min, .max, .get] 1 _ cA ht rfl (by rw [e]; rfl) (((((s2.trans s3).trans s4).trans s5).trans s6) _ _ upd_same) (nS _ (s0.free g1)) (by decide) (by decide))
  · exact setS (fn_pick hl st nBS hB lb hb w0 w5 q p0 p1 p2 p3 p4 p5 t p2 [.get] 2 _ cA ht rfl (by rw [e]; rfl) ((((s3.trans s4).trans s5).trans s6) _ _ upd_same) (nS _ ((s0.trans s1).free g2)) (by decide) (by decide))
  · exact setS (fn_pick hl st nBS hB lb hb w0 w5 q p0 p1 p2 p3 p4 p5 t p3 [.text, .get] 3 _ cA ht rfl (by rw [e]; rfl) (((s4.trans s5).trans s6) _ _ upd_same) (nS _ (((s0.trans s1).trans s2).free g3)) (by decide) (by decide))
  · exact setS (fn_pick hl st nBS hB lb hb w0 w5 q p0 p1 p2 p3 p4 p5 t p4 [.keys, .get] 4 _ cA ht rfl (by rw [e]; rfl) ((s5.trans s6) _ _ upd_same) (nS _ ((((s0.trans s1).trans s2).trans s3).free g4)) (by decide) (by decide))
  · exact setS (fn_pick hl st nBS hB lb hb w0 w5 q p0 p1 p2 p3 p4 p5 t p5 [.get] 5 _ cA ht rfl (by rw [e]; rfl) (s6 _ _ upd_same) (nS _ (((((s0.trans s1).trans s2).trans s3).trans s4).free g5)) (by decide) (by decide))
end
end Vk
set_option maxHeartbeats 4000000
/-! the law draws: operators -/
namespace Vk
open PySem PySem.Spec PyProof.Rows L2
section
variable {σ : L2.St} {H : Hp} {Q : VK} {E : XK} {S B : Addr} {l n : Nat} {bs : List Str}
/-- _law_expression(state, levels, want, bound) -/
theorem exp_call {wn : Int} (hl : l + 1 ≤ n) (st : St S H) (nBS : B ≠ S) (hB : H B = some (.lst (bs.map V.str))) (lb : bs.length + l ≤ 100) (hb : ∀ y ∈ bs, y.length ≤ 100) (w0 : 0 ≤ wn) (w5 : wn ≤ 5)
    (q : ∀ v H', Ch S H H' → GoodE bs (l + 2) (nw H H') v → Q v H') : spExp n [.ref S, .int (l : Nat), .int wn, .ref B] H Q E := ⟨S, B, l, wn, bs, rfl, hl, st, nBS, hB, lb, hb, w0, w5, q⟩
/-- one of a tuple, by a digit -/
theorem pickT {K : PySem.W.Frag} {t : TA} {ws : List V} {m : Int} {i : Nat} (ht : ∀ (H : Hp) (R : List V → Hp → Prop), R ws H → t σ H R) (h1 : σ[i]? = some (some (.ref S))) (st : St S H) (h0 : 0 < m) (hm : m = (ws.length : Nat)) (lw : ws.length ≤ 100)
    (q : ∀ v H', v ∈ ws → Ch S H H' → Q v H') : tOp (rIxT K) (tTup t) (tCal spDigit E0 (tCons (tVar i) (tCons (tC (.int m)) tNil))) σ H Q := by
  refine ht H _ ⟨Nat.le_trans lw (by decide), fun T hT => dig h1 rfl (st.same (same_new hT _)) h0 (by omega) fun j H1 j0 j1 c1 of1 => ?_⟩
  have nTS : T ≠ S := fun e => by obtain ⟨u, e2⟩ := st.some; rw [← e, hT] at e2; cases e2
  have hT1 : H1 T = some (.tup ws) := (of1 T nTS).trans upd_same
  have hj : j.toNat < ws.length := by omega
  exact ⟨T, ws, j, ws[j.toNat], rfl, rfl, .inl (.inl hT1), atI_int j0 (List.getElem?_eq_getElem hj), q _ _ (List.getElem_mem hj) (((Ch.refl st).more (same_new hT (.tup ws))).trans c1)⟩
end
section
variable {w : World} {K : PySem.W.Frag} {mg : Str → Option Value} {base : Heap} {n k : Nat}
abbrev s_L_signed : Stmt := topS 95
theorem sc_L_signed : FnScope ["_law_state", "_law_levels", "_law_want", "_law_bound", "_law_sign", "_law_kind_here", "_law_left"] ["_law_state", "_law_levels", "_law_want", "_law_bound"] (defScope s_L_signed) := ⟨rfl, rfl, rfl, by decide +kernel, rfl, by decide +kernel, by decide +kernel⟩
theorem cal_L_signed (D : DefA K mg "_law_signed" s_L_signed) (z : Nm mg) (hk : 1 ≤ k) (c__law_digit : Cal PP w K mg base CX0 1 "_law_digit" ["_law_state", "_law_many_here"] spDigit) (c__law_expression : Cal PP w K mg base CX0 k "_law_expression" ["_law_state", "_law_levels", "_law_want", "_law_bound"] (spExp n)) :
    Cal PP w K mg base CX0 (k + 1) "_law_signed" ["_law_state", "_law_levels", "_law_want", "_law_bound"] (spExq n) := by
  have c__law_digit := c__law_digit.mono hk
  refine cal_mk D sc_L_signed (fun _ _ _ _ _ _ us hl => match us, hl with | [_, _, _, _], _ => rfl) (fun vs H Q E h => ?_) (fun f cdv A outer s H vs Q E hr h => ?_)
  · obtain ⟨S, B, l, wn, bs, rfl, _⟩ := h
    rfl
  obtain ⟨S, B, l, wn, bs, rfl, hl, st, nBS, hB, lb, hb, w0, w5, q⟩ := h
  refine ⟨_, (pss_cons (ps_if (pt_cmpR op_eq (pv 2) pe_int (nomark _)) (pss_cons (ps_set (i := 4) sc_L_signed.nd rfl (Or.inl rfl) (pe_ix ix_tup (pe_tup (pa_cons pe_str (pa_cons pe_str (pa_cons pe_str (pa_cons pe_str pa_nil))))) (pe_cal c__law_digit hr (by rfl) (pa_cons (pv 0) (pa_cons pe_int pa_nil))) (fun _ _ => rfl)))
    (pss_one (ps_ret (pe_tup (pa_cons pe_str (pa_cons (pv 4) (pa_cons (pe_cal c__law_expression hr (by rfl) (pa_cons (pv 0) (pa_cons (pv 1) (pa_cons pe_int (pa_cons (pv 3) pa_nil))))) (pa_cons (pe_cal c__law_expression hr (by rfl) (pa_cons (pv 0) (pa_cons (pv 1) (pa_cons pe_int (pa_cons (pv 3) pa_nil))))) pa_nil)))))))) pss_nil)
    (pss_cons (ps_if (pt_cmpR op_eq (pv 2) pe_int (nomark _)) (pss_cons (ps_set (i := 4) sc_L_signed.nd rfl (Or.inl rfl) (pe_ix ix_tup (pe_tup (pa_cons pe_str (pa_cons pe_str (pa_cons pe_str (pa_cons pe_str (pa_cons pe_str (pa_cons pe_str (pa_cons pe_str (pa_cons pe_str pa_nil))))))))) (pe_cal c__law_digit hr (by rfl) (pa_cons (pv 0) (pa_cons pe_int pa_nil))) (fun _ _ => rfl)))
    (pss_cons (ps_set (i := 5) sc_L_signed.nd rfl (Or.inl rfl) (pe_ix ix_tup (pe_tup (pa_cons pe_int (pa_cons pe_int (pa_cons pe_int pa_nil)))) (pe_cal c__law_digit hr (by rfl) (pa_cons (pv 0) (pa_cons pe_int pa_nil))) (fun _ _ => rfl)))
    (pss_cons (ps_if (pt_cmpR op_in_seq (pv 4) (pe_tup (pa_cons pe_str (pa_cons pe_str pa_nil))) rfl) (pss_one (ps_set (i := 5) sc_L_signed.nd rfl (Or.inl rfl) pe_int)) pss_nil)
    (pss_cons (ps_set (i := 6) sc_L_signed.nd rfl (Or.inl rfl) (pe_cal c__law_expression hr (by rfl) (pa_cons (pv 0) (pa_cons (pv 1) (pa_cons (pv 5) (pa_cons (pv 3) pa_nil))))))
    (pss_one (ps_ret (pe_tup (pa_cons pe_str (pa_cons (pv 4) (pa_cons (pv 6) (pa_cons (pe_cal c__law_expression hr (by rfl) (pa_cons (pv 0) (pa_cons (pv 1) (pa_cons (pv 5) (pa_cons (pv 3) pa_nil))))) pa_nil))))))))))) pss_nil)
    (pss_cons (ps_set (i := 6) sc_L_signed.nd rfl (Or.inl rfl) (pe_cal c__law_expression hr (by rfl) (pa_cons (pv 0) (pa_cons (pv 1) (pa_cons (pv 2) (pa_cons (pv 3) pa_nil))))))
    (pss_one (ps_ret (pe_tup (pa_cons pe_str (pa_cons pe_str (pa_cons (pv 6) (pa_cons (pe_cal c__law_expression hr (by rfl) (pa_cons (pv 0) (pa_cons (pv 1) (pa_cons (pe_ix ix_tup (pe_tup (pa_cons (pv 2) (pa_cons pe_int pa_nil))) (pe_callTy call_int1 (by rfl) z.int (by decide +kernel) (pa_cons (pe_cmpR op_eq (pv 2) pe_int (nomark _)) pa_nil)) (fun _ _ => rfl)) (pa_cons (pv 3) pa_nil))))) pa_nil)))))))))), ?_⟩
  have fin : ∀ (s : Sg) (v1 v2 : V) (H3 : Hp), Ch S H H3 → GoodE bs (l + 2) (nw H H3) v1 → GoodE bs (l + 2) (nw H H3) v2 → 4 ≤ sizeLine ∧ ∀ p, H3 p = none → Q (.ref p) (upd H3 p (.tup [.str "binary", .str s.s, v1, v2])) := fun s v1 v2 H3 c3 g1 g2 => ⟨by decide, fun p hp => by
    obtain ⟨x, r1, l1, o1⟩ := g1.mono (nw_upd hp (o := .tup [.str "binary", .str s.s, v1, v2]))
    obtain ⟨y, r2, l2, o2⟩ := g2.mono (nw_upd hp (o := .tup [.str "binary", .str s.s, v1, v2]))
    exact q _ _ (c3.more (same_new hp _)) ⟨.bin s x y, .bin (nw_new (c3.free st hp)) r1 r2, by rw [Ex.lvl]; omega, fun ks a b => by rw [Ex.ok]; exact ⟨o1 ks a b, o2 ks a b⟩⟩⟩
  have one : ∀ {H1 : Hp} {wn : Int} {R : VK}, Ch S H H1 → 0 ≤ wn → wn ≤ 5 → (∀ v H2, Ch S H H2 → Ch S H1 H2 → GoodE bs (l + 2) (nw H H2) v → R v H2) → spExp n [.ref S, .int (l : Nat), .int wn, .ref B] H1 R E0 := fun {H1 wn R} c1 a b r =>
    exp_call hl c1.st nBS (c1.off _ _ nBS hB) (by omega) hb a b fun v H2 c2 g => r v H2 (c1.trans c2) c2 (g.mono (nw_old st c1))
  refine if_pureN (p := wn == 1) (fun Q q => ⟨_, rfl, rfl, _, congrArg V.bl dec_int, q⟩) (fun h => ?_) fun n1 => if_pureN (p := wn == 2) (fun Q q => ⟨_, rfl, rfl, _, congrArg V.bl dec_int, q⟩) (fun h => ?_) fun n2 => ?_
  · refine setS (pickT (ws := [.str "+", .str "-", .str "*", .str "/"]) (fun H R r => r) rfl st (by decide) rfl (by decide) fun v H1 hv c1 => ?_)
    obtain ⟨s, rfl⟩ : ∃ s : Sg, v = .str s.s := by
      rcases List.mem_cons.mp hv with e | hv
      · exact ⟨.add, e⟩
      rcases List.mem_cons.mp hv with e | hv
      · exact ⟨.sub, e⟩
      rcases List.mem_cons.mp hv with e | hv
      · exact ⟨.mul, e⟩
      · exact ⟨.div, List.mem_singleton.mp hv⟩
    exact ⟨_, rfl, _, rfl, _, rfl, _, rfl, one c1 (by decide) (by decide) fun v1 H2 c2 c12 g1 => ⟨_, rfl, _, rfl, _, rfl, one c2 (by decide) (by decide) fun v2 H3 c3 c23 g2 => fin s v1 v2 H3 c3 (g1.mono (nw_ch st c23)) g2⟩⟩
  · refine setS (pickT (ws := [.str "<", .str "<=", .str ">", .str ">=", .str "==", .str "!=", .str "&&", .str "||"]) (fun H R r => r) rfl st (by decide) rfl (by decide) fun v H1 hv c1 => ?_)
    obtain ⟨s, rfl⟩ : ∃ s : Sg, v = .str s.s := by
      rcases List.mem_cons.mp hv with e | hv
      · exact ⟨.lt, e⟩
      rcases List.mem_cons.mp hv with e | hv
      · exact ⟨.le, e⟩
      rcases List.mem_cons.mp hv with e | hv
      · exact ⟨.gt, e⟩
      rcases List.mem_cons.mp hv with e | hv
      · exact ⟨.ge, e⟩
      rcases List.mem_cons.mp hv with e | hv
      · exact ⟨.eq, e⟩
      rcases List.mem_cons.mp hv with e | hv
      · exact ⟨.ne, e⟩
      rcases List.mem_cons.mp hv with e | hv
      · exact ⟨.and, e⟩
      · exact ⟨.or, List.mem_singleton.mp hv⟩
    refine setS (pickT (ws := [.int 1, .int 3, .int 0]) (fun H R r => r) rfl c1.st (by decide) rfl (by decide) fun v H2 hv c2 => ?_)
    obtain ⟨kd, rfl, k0, k5⟩ : ∃ i : Int, v = .int i ∧ 0 ≤ i ∧ i ≤ 5 := by
      rcases List.mem_cons.mp hv with e | hv
      · exact ⟨1, e, by decide, by decide⟩
      rcases List.mem_cons.mp hv with e | hv
      · exact ⟨3, e, by decide, by decide⟩
      · exact ⟨0, List.mem_singleton.mp hv, by decide, by decide⟩
    have c02 := c1.trans c2
    have rest : ∀ (kd : Int) (H3 : Hp), Ch S H H3 → 0 ≤ kd → kd ≤ 5 → tSeq (tAsg (tCal (spExp n) E0 (tCons (tVar 0) (tCons (tVar 1) (tCons (tVar 5) (tCons (tVar 3) tNil))))) (gName 6)) (tRet (tTup (tCons (tC (.str "binary")) (tCons (tVar 4) (tCons (tVar 6) (tCons (tCal (spExp n) E0 (tCons (tVar 0) (tCons (tVar 1) (tCons (tVar 5) (tCons (tVar 3) tNil))))) tNil))))))
        { nx := fun _ H' => Q .non H', rt := Q } [some (.ref S), some (.int (l : Nat)), some (.int wn), some (.ref B), some (.str s.s), some (.int kd), none] H3 := fun kd H3 c3 a b =>
      setS ⟨_, rfl, _, rfl, _, rfl, _, rfl, one c3 a b fun v1 H4 c4 c34 g1 => ⟨_, rfl, _, rfl, _, rfl, _, rfl, _, rfl, _, rfl, one c4 a b fun v2 H5 c5 c45 g2 => fin s v1 v2 H5 c5 (g1.mono (nw_ch st c45)) g2⟩⟩
    refine if_tstS (tin2 "&&" "||" (val_var rfl)) (fun _ H3 s3 => ?_) fun _ H3 s3 => ?_
    · exact rest 2 H3 (c02.more s3) (by decide) (by decide)
    · exact rest kd H3 (c02.more s3) k0 k5
  · refine setS ⟨_, rfl, _, rfl, _, rfl, _, rfl, one (.refl st) w0 w5 fun v1 H1 c1 _ g1 => ⟨_, rfl, _, rfl, _, rfl, _, rfl, by show 2 ≤ sizeLine; decide, fun T hT => ⟨_, rfl, rfl, .inr ⟨_, rfl, ?_⟩⟩⟩⟩
    have sT := same_new hT (.tup [.int wn, .int 1])
    have cT := c1.more sT
    have hw : ∃ w2 : Int, 0 ≤ w2 ∧ w2 ≤ 5 ∧ atI ([.int wn, .int 1] : List V) (if decide (V.int wn = V.int 3) = true then 1 else 0) = some (.int w2) := by
      cases decide (V.int wn = V.int 3) with
      | true => exact ⟨1, by decide, by decide, rfl⟩
      | false => exact ⟨wn, w0, w5, rfl⟩
    obtain ⟨w2, a, b, e⟩ := hw
    exact ⟨T, _, _, _, rfl, rfl, .inl (.inl upd_same), e, _, rfl, one cT a b fun v2 H2 c2 c12 g2 => fin .add v1 v2 H2 c2 (g1.mono ((nw_same sT).trans (nw_ch st c12))) g2⟩
end
end Vk
set_option maxHeartbeats 4000000
/-! the law draws: lists, gatherings, acts, records -/
namespace Vk
open PySem PySem.Spec PyProof.Rows L2
theorem put_mem (ks : List Str) (y : Str) : y ∈ putKs ks y ∧ ∀ x ∈ ks, x ∈ putKs ks y := by
  unfold putKs
  split
  · rename_i h
    exact ⟨h, fun x hx => hx⟩
  · exact ⟨List.mem_append_right _ List.mem_cons_self, fun x hx => List.mem_append_left _ hx⟩
/-- elements drawn one by one: each is new, and knows its place -/
theorem lc_chI {J : It} {n i : Nat} {G : Hp → Prop} {Y : Nat → Hp → V → Hp → Prop} {te : TE} {σ : L2.St} {H1 : Hp} {Q : VK} {S : Addr} (w : Walk J n G Y) (hS : St S H1) (El : Nat → Hp → V → Prop) (hm : ∀ i G G' y, Same G G' → El i G y → El i G' y) (hz : n < sizeLine) (hG : ∀ H, Ch S H1 H → G H)
    (el : ∀ j x H H' (Qk : VK), j < n → Ch S H1 H → Y j H x H' → H' = H ∧ ((∀ y H4, Ch S H H4 → El j (nw H H4) y → Qk y H4) → te ((wipe σ [i]).set i (some x)) H Qk))
    (fin : ∀ D acc H', acc.length = n → Ch S H1 H' → nw H1 H' D = some (.lst acc) → (∀ i y, acc[i]? = some y → El i (nw H1 H') y) → Q (.ref D) H') : lcGo J (gName i) tYes te [i] σ Q H1 := by
  intro D hD
  have nDS : D ≠ S := fun e => by obtain ⟨u, e2⟩ := hS.some; rw [← e, hD] at e2; cases e2
  refine lc_it w (Pv := fun j H => ∃ acc, H D = some (.lst acc) ∧ acc.length = j ∧ Ch S H1 H ∧ ∀ i y, acc[i]? = some y → El i (nw (upd H1 D (.lst [])) H) y) ⟨[], upd_same, rfl, (Ch.refl hS).more (same_new hD _), fun _ _ h => by cases h⟩ (fun j H _ ⟨_, _, _, c, _⟩ => hG H c) (fun j x H H' hj ⟨acc, p1, p2, p3, p4⟩ y => ?_) fun H ⟨acc, p1, p2, p3, p4⟩ => ?_
  · obtain ⟨rfl, q⟩ := el j x H H' (fun y H4 => ∃ acc, H4 D = some (.lst acc) ∧ acc.length < sizeLine ∧ ∃ acc', (upd H4 D (.lst (acc ++ [y]))) D = some (.lst acc') ∧ acc'.length = j + 1 ∧ Ch S H1 (upd H4 D (.lst (acc ++ [y]))) ∧ ∀ i z, acc'[i]? = some z → El i (nw (upd H1 D (.lst [])) (upd H4 D (.lst (acc ++ [y])))) z) hj p3 y
    refine ⟨wipe_one σ i _, yes_ (q fun y H4 c4 e4 => ?_)⟩
    have c04 := p3.trans c4
    have nn : ∀ o', Same (nw (upd H1 D (.lst [])) H4) (nw (upd H1 D (.lst [])) (upd H4 D o')) := fun o' b o e => by
      obtain ⟨e1, e2⟩ := nw_some e
      have hb : b ≠ D := fun z => by rw [z, upd_same] at e1; cases e1
      rw [nw_at e1, upd_ne hb]
      exact e2
    have hSD : St S (upd H1 D (.lst [])) := hS.same (same_new hD _)
    refine ⟨acc, c4.off _ _ nDS p1, by omega, acc ++ [y], upd_same, by rw [List.length_append, p2]; rfl, ⟨?_, fun b o nb e => ?_⟩, fun iz z hz => ?_⟩
    · obtain ⟨n, h0, e⟩ := c04.st
      exact ⟨n, h0, by rw [upd_ne (fun z => nDS z.symm)]; exact e⟩
    · rw [upd_ne (ne_of_none e hD)]
      exact c04.off b o nb e
    · by_cases hi : iz < acc.length
      · rw [List.getElem?_append_left hi] at hz
        exact hm _ _ _ _ (nn _) (hm _ _ _ _ (nw_ch hSD c4) (p4 iz z hz))
      · rw [List.getElem?_append_right (by omega)] at hz
        obtain ⟨hz1, hz2⟩ := List.getElem?_eq_some_iff.mp hz
        have e0 : iz = j := by
          have : iz - acc.length < 1 := hz1
          omega
        subst e0
        rw [List.getElem_singleton] at hz2
        rw [← hz2]
        refine hm _ _ _ _ (nn _) (hm _ _ _ _ ?_ e4)
        intro b o e
        obtain ⟨e1, e2⟩ := nw_some e
        have hb : b ≠ D := fun z => by rw [z, p1] at e1; cases e1
        have : (upd H1 D (.lst [])) b = none := by rw [upd_ne hb]; exact p3.free hS e1
        rw [nw_at this]
        exact e2
  · refine fin D acc H p2 p3 (by rw [nw_at hD]; exact p1) fun i y hy => hm _ _ _ _ ?_ (p4 i y hy)
    intro b o e
    obtain ⟨e1, e2⟩ := nw_some e
    have hb : b ≠ D := fun z => by rw [z, upd_same] at e1; cases e1
    rw [upd_ne hb] at e1
    rw [nw_at e1]
    exact e2
theorem retTup2 {D : Ends} {σ : L2.St} {H : Hp} {a : V} {te : TE} (h : te σ H fun x H1 => 2 ≤ sizeLine ∧ ∀ p, H1 p = none → D.rt (.ref p) (upd H1 p (.tup [a, x]))) : tRet (tTup (tCons (tC a) (tCons te tNil))) D σ H := h
/-- if digit == c -/
theorem digIf {t r : TS} {D : Ends} {σ : L2.St} {H : Hp} {S : Addr} {i : Nat} {m c : Int} (h1 : σ[i]? = some (some (.ref S))) (st : St S H) (h0 : 0 < m) (hm : m < 1073741824) (a : ∀ H', Ch S H H' → t { D with nx := r D } σ H') (b : ∀ H', Ch S H H' → r D σ H') :
    tSeq (tIfS (tTest (tOp rEq (tCal spDigit E0 (tCons (tVar i) (tCons (tC (.int m)) tNil))) (tC (.int c)))) t tNext) r D σ H :=
  dig (E := E0) h1 rfl st h0 hm fun j H' _ _ c1 _ => ⟨rfl, _, congrArg V.bl dec_int, ite2 (fun _ => a H' c1) fun _ => b H' c1⟩
/-- pairs of a name and an expression, as a record asks -/
theorem elsR {bs : List Str} {m : Nat} {G : Hp} : ∀ {vs : List V} {ns : List Str}, vs.length = ns.length → (∀ (i : Nat) (u : V) (n : Str), vs[i]? = some u → ns[i]? = some n → ∃ p v, u = .ref p ∧ G p = some (.tup [.str n, v]) ∧ GoodE bs m G v) →
    ∃ xs, ERecs G vs ns xs ∧ xs.lvl ≤ m ∧ xs.len = ns.length ∧ ∀ ks, (∀ y ∈ ks0, y ∈ ks) → (∀ y ∈ bs, y ∈ ks) → xs.ok ks
  | [], [], _, _ => ⟨.nil, .nil, by rw [Exs.lvl]; exact Nat.zero_le _, rfl, fun _ _ _ => by rw [Exs.ok]; trivial⟩
  | [], _ :: _, h, _ => by cases h
  | _ :: _, [], h, _ => by cases h
  | u :: vs, n :: ns, h, k => by
    obtain ⟨p, v, rfl, hp, x, r, l, o⟩ := k 0 u n rfl rfl
    obtain ⟨xs, rs, ls, ln, os⟩ := elsR (vs := vs) (ns := ns) (Nat.succ.inj h) fun i u n a b => k (i + 1) u n a b
    exact ⟨.cons x xs, .cons hp r rs, by rw [Exs.lvl]; exact Nat.max_le.mpr ⟨l, ls⟩, by show xs.len + 1 = _; rw [ln]; rfl, fun ks h1 h2 => by rw [Exs.ok]; exact ⟨o ks h1 h2, os ks h1 h2⟩⟩
section
variable {w : World} {K : PySem.W.Frag} {mg : Str → Option Value} {base : Heap} {n k : Nat}
abbrev s_L_made_of : Stmt := topS 94
theorem sc_L_made_of : FnScope ["_law_state", "_law_levels", "_law_want", "_law_bound", "_law_name", "_law_when", "_law_given", "_law_names"] ["_law_state", "_law_levels", "_law_want", "_law_bound"] (defScope s_L_made_of) := ⟨rfl, rfl, rfl, by decide +kernel, rfl, by decide +kernel, by decide +kernel⟩
theorem cal_L_made_of (D : DefA K mg "_law_made_of" s_L_made_of) (z : Nm mg) (hk : 1 ≤ k) (c__law_digit : Cal PP w K mg base CX0 1 "_law_digit" ["_law_state", "_law_many_here"] spDigit) (c__law_many : Cal PP w K mg base CX0 (k + 1) "_law_many" ["_law_state", "_law_levels", "_law_bound"] (spMany n))
    (c__law_expression : Cal PP w K mg base CX0 k "_law_expression" ["_law_state", "_law_levels", "_law_want", "_law_bound"] (spExp n)) :
    Cal PP w K mg base CX0 (k + 2) "_law_made_of" ["_law_state", "_law_levels", "_law_want", "_law_bound"] (spExq n) := by
  have c__law_digit := c__law_digit.mono (show 1 ≤ k + 1 by omega)
  have c__law_expression := c__law_expression.mono (show k ≤ k + 1 by omega)
  refine cal_mk D sc_L_made_of (fun _ _ _ _ _ _ us hl => match us, hl with | [_, _, _, _], _ => rfl) (fun vs H Q E h => ?_) (fun f cdv A outer s H vs Q E hr h => ?_)
  · obtain ⟨S, B, l, wn, bs, rfl, _⟩ := h
    rfl
  obtain ⟨S, B, l, wn, bs, rfl, hl, st, nBS, hB, lb, hb, w0, w5, q⟩ := h
  refine ⟨_, (pss_cons (ps_if (pt_cmpR op_eq (pv 2) pe_int (nomark _)) (pss_cons (ps_if (pt_cmpR op_eq (pe_cal c__law_digit hr (by rfl) (pa_cons (pv 0) (pa_cons pe_int pa_nil))) pe_int (nomark _)) (pss_one (ps_ret (pe_tup (pa_cons pe_str (pa_cons (pe_cal c__law_many hr (by rfl) (pa_cons (pv 0) (pa_cons (pv 1) (pa_cons (pv 3) pa_nil)))) pa_nil))))) pss_nil)
    (pss_cons (ps_set (i := 4) sc_L_made_of.nd rfl (Or.inl rfl) (pe_op op_add_str pe_str (pe_callTy call_strA (by rfl) z.str (by decide +kernel) (pa_cons (pv 1) pa_nil))))
    (pss_cons (ps_set (i := 5) sc_L_made_of.nd rfl (Or.inl rfl) pe_non)
    (pss_cons (ps_if (pt_cmpR op_eq (pe_cal c__law_digit hr (by rfl) (pa_cons (pv 0) (pa_cons pe_int pa_nil))) pe_int (nomark _)) (pss_one (ps_set (i := 5) sc_L_made_of.nd rfl (Or.inl rfl) (pe_cal c__law_expression hr (by rfl) (pa_cons (pv 0) (pa_cons (pv 1) (pa_cons pe_int (pa_cons (pe_op op_cat (pv 3) (pe_lst (pa_cons (pv 4) pa_nil))) pa_nil))))))) pss_nil)
    (pss_cons (ps_set (i := 6) sc_L_made_of.nd rfl (Or.inl rfl) (pe_cal c__law_expression hr (by rfl) (pa_cons (pv 0) (pa_cons (pv 1) (pa_cons (pe_cal c__law_digit hr (by rfl) (pa_cons (pv 0) (pa_cons pe_int pa_nil))) (pa_cons (pe_op op_cat (pv 3) (pe_lst (pa_cons (pv 4) pa_nil))) pa_nil))))))
    (pss_one (ps_ret (pe_tup (pa_cons pe_str (pa_cons (pv 6) (pa_cons (pv 4) (pa_cons (pe_cal c__law_expression hr (by rfl) (pa_cons (pv 0) (pa_cons (pv 1) (pa_cons pe_int (pa_cons (pv 3) pa_nil))))) (pa_cons (pv 5) pa_nil))))))))))))) pss_nil)
    (pss_cons (ps_if (pt_cmpR op_eq (pe_cal c__law_digit hr (by rfl) (pa_cons (pv 0) (pa_cons pe_int pa_nil))) pe_int (nomark _)) (pss_one (ps_ret (pe_tup (pa_cons pe_str (pa_cons pe_str (pa_cons (pe_cal c__law_many hr (by rfl) (pa_cons (pv 0) (pa_cons (pv 1) (pa_cons (pv 3) pa_nil)))) pa_nil)))))) pss_nil)
    (pss_cons (ps_set (i := 7) sc_L_made_of.nd rfl (Or.inl rfl) (pe_ix ix_tup (pe_tup (pa_cons (pe_tup (pa_cons pe_str pa_nil)) (pa_cons (pe_tup (pa_cons pe_str (pa_cons pe_str pa_nil))) (pa_cons (pe_tup (pa_cons pe_str (pa_cons pe_str pa_nil))) (pa_cons (pe_tup pa_nil) pa_nil))))) (pe_cal c__law_digit hr (by rfl) (pa_cons (pv 0) (pa_cons pe_int pa_nil))) (fun _ _ => rfl)))
    (pss_one (ps_ret (pe_tup (pa_cons pe_str (pa_cons (pe_lc (own := [("_law_name", 4)]) (g := gName 4) (tt := tYes) rfl sc_L_made_of.nd (pi_tup (pv 7)) (blkOk_by (N := ["_law_state", "_law_levels", "_law_want", "_law_bound", "_law_name", "_law_when", "_law_given", "_law_names"]) (sc := defScope s_L_made_of) (by decide +kernel)) (fun _ _ _ _ _ => pg_name (i := 4) sc_L_made_of.nd rfl (Or.inl rfl)) (fun _ _ _ _ _ => pts_nil) (fun _ _ _ _ _ => (pe_tup (pa_cons (pv 4) (pa_cons (pe_cal c__law_expression hr (by rfl) (pa_cons (pv 0) (pa_cons (pv 1) (pa_cons (pe_cal c__law_digit hr (by rfl) (pa_cons (pv 0) (pa_cons pe_int pa_nil))) (pa_cons (pv 3) pa_nil))))) pa_nil))))) pa_nil)))))))), ?_⟩
  refine if_pureN (p := wn == 4) (fun Q q => ⟨_, rfl, rfl, _, congrArg V.bl dec_int, q⟩) (fun h => ?_) fun n1 => ?_
  · refine digIf rfl st (by decide) (by decide) (fun H1 c1 => ?_) fun H1 c1 => ?_
    · have hB1 := c1.off _ _ nBS hB
      refine ⟨_, rfl, _, rfl, _, rfl, S, B, l, bs, rfl, hl, c1.st, nBS, hB1, by omega, hb, fun L acc H2 c2 hL la he => ⟨by show 2 ≤ sizeLine; decide, fun p hp => ?_⟩⟩
      have c12 := c1.trans c2
      have sN : Same (nw H1 H2) (nw H (upd H2 p (.tup [.str "list", .ref L]))) := fun b o e => nw_upd hp b o (nw_old st c1 b o e)
      obtain ⟨xs, rs, ls, ln, os⟩ := elsE fun y hy => (he y hy).mono sN
      exact q _ _ (c12.more (same_new hp _)) ⟨.lst xs, .lst (nw_new (c12.free st hp)) (sN _ _ hL) rs, by rw [Ex.lvl]; omega, fun ks a b => by rw [Ex.ok]; exact ⟨by omega, os ks a b⟩⟩
    · have hlog : ((l : Nat) : Int).natAbs.log2 < 1920 := small_log (by have hb : big30 = 1000000000000000000000000000000 := rfl; rw [hb]; omega)
      have hy : ((("g" : Str) ++ (Str.ofString (toString ((l : Nat) : Int)))).length) ≤ 100 := by
        have h1 : ((l : Nat) : Int).natAbs < 10 ^ 3 := by
          have : (10 : Nat) ^ 3 = 1000 := by decide
          omega
        have h2 := PySem.int_text_length_le10 (by decide) h1
        rw [Str.length_append, PySem.ofString_length, PySem.ofString_length]
        have : ("g" : String).length = 1 := by decide
        omega
      refine setS ⟨_, rfl, .inl ⟨_, rfl, hlog, _, _, rfl, rfl, ?_, setS ?_⟩⟩
      · have h1 : (("g" : Str) ++ (Str.ofString (toString ((l : Nat) : Int)))).length = ("g" : Str).length + (Str.ofString (toString ((l : Nat) : Int))).length := Str.length_append _ _
        exact Nat.le_trans (by rw [← h1]; exact hy) (by decide)
      obtain ⟨y, ey⟩ : ∃ y : Str, y = (("g" : Str) ++ (Str.ofString (toString ((l : Nat) : Int)))) := ⟨_, rfl⟩
      show tSeq _ _ _ [some (.ref S), some (.int (l : Nat)), some (.int wn), some (.ref B), some (.str (("g" : Str) ++ (Str.ofString (toString ((l : Nat) : Int))))), some .non, none, none] H1
      rw [← ey]
      rw [← ey] at hy
      have with1 : ∀ (x5 : Option V) {H2 : Hp} {w2 : Int} {R : VK}, Ch S H H2 → 0 ≤ w2 → w2 ≤ 5 → (∀ v H3, Ch S H H3 → Ch S H2 H3 → GoodE (bs ++ [y]) (l + 2) (nw H H3) v → R v H3) →
          tOp rCat (tVar 3) (tLst (tCons (tVar 4) tNil)) [some (.ref S), some (.int (l : Nat)), some (.int wn), some (.ref B), some (.str y), x5, none, none] H2 fun x H3 => spExp n [.ref S, .int (l : Nat), .int w2, x] H3 R E0 := fun x5 {H2 w2 R} c2 a b r => by
        have hB2 := c2.off _ _ nBS hB
        refine ⟨_, rfl, _, rfl, by show 1 ≤ sizeLine; decide, fun N hN => ⟨B, N, _, _, rfl, rfl, same_new hN _ _ _ hB2, upd_same, by rw [List.length_map]; exact Nat.le_trans (show bs.length + 1 ≤ 101 by omega) (by decide), fun M hM => ?_⟩⟩
        have s1 := same_new hN (.lst [.str y])
        have s2 := same_new hM (.lst (bs.map V.str ++ [.str y]))
        have c3 := c2.more (s1.trans s2)
        have nM : M ≠ S := fun e => by obtain ⟨u, e2⟩ := (c2.more s1).st.some; rw [← e, hM] at e2; cases e2
        exact exp_call (bs := bs ++ [y]) hl c3.st nM (by rw [List.map_append]; exact upd_same) (by rw [List.length_append]; show bs.length + 1 + l ≤ 100; omega) (fun z hz => by
          rcases List.mem_append.mp hz with h | h
          · exact hb z h
          · rw [List.mem_singleton.mp h]; exact hy) a b fun v H3 c4 g => r v H3 (c3.trans c4) (((Ch.refl c2.st).more (s1.trans s2)).trans c4) (g.mono (nw_old st c3))
      have one : ∀ {H1 : Hp} {wn : Int} {R : VK}, Ch S H H1 → 0 ≤ wn → wn ≤ 5 → (∀ v H2, Ch S H H2 → Ch S H1 H2 → GoodE bs (l + 2) (nw H H2) v → R v H2) → spExp n [.ref S, .int (l : Nat), .int wn, .ref B] H1 R E0 := fun {H1 wn R} c1 a b r =>
        exp_call hl c1.st nBS (c1.off _ _ nBS hB) (by omega) hb a b fun v H2 c2 g => r v H2 (c1.trans c2) c2 (g.mono (nw_old st c1))
      have fin : ∀ (vg vr vc : V) (H3 : Hp), Ch S H H3 → GoodE (bs ++ [y]) (l + 2) (nw H H3) vg → GoodE bs (l + 2) (nw H H3) vr → (vc = .non ∨ ∃ b, vc = .ref b ∧ GoodE (bs ++ [y]) (l + 2) (nw H H3) (.ref b)) → 5 ≤ sizeLine ∧ ∀ p, H3 p = none → Q (.ref p) (upd H3 p (.tup [.str "gather", vg, .str y, vr, vc])) := fun vg vr vc H3 c3 g1 g2 g3 => ⟨by decide, fun p hp => by
        have sN := nw_upd (H := H) hp (o := .tup [.str "gather", vg, .str y, vr, vc])
        obtain ⟨x, r1, l1, o1⟩ := g1.mono sN
        obtain ⟨z, r2, l2, o2⟩ := g2.mono sN
        have up : ∀ ks : List Str, (∀ y ∈ bs, y ∈ ks) → ∀ x ∈ bs ++ [y], x ∈ putKs ks y := fun ks h x hx => by
          rcases List.mem_append.mp hx with h2 | h2
          · exact (put_mem ks y).2 _ (h x h2)
          · rw [List.mem_singleton.mp h2]; exact (put_mem ks y).1
        rcases g3 with rfl | ⟨b, rfl, g3⟩
        · exact q _ _ (c3.more (same_new hp _)) ⟨.gather x y z, .gather (nw_new (c3.free st hp)) r1 r2, by rw [Ex.lvl]; omega, fun ks a b => by rw [Ex.ok]; exact ⟨hy, o2 ks a b, o1 _ (fun x hx => (put_mem ks y).2 _ (a x hx)) (up ks b)⟩⟩
        · obtain ⟨e, r3, l3, o3⟩ := g3.mono sN
          exact q _ _ (c3.more (same_new hp _)) ⟨.gatherIf x y z e, .gatherIf (nw_new (c3.free st hp)) r1 r2 r3, by rw [Ex.lvl]; omega, fun ks a b => by rw [Ex.ok]; exact ⟨hy, o2 ks a b, o1 _ (fun x hx => (put_mem ks y).2 _ (a x hx)) (up ks b), o3 _ (fun x hx => (put_mem ks y).2 _ (a x hx)) (up ks b)⟩⟩⟩
      have rest : ∀ (vc : V) (H2 : Hp), Ch S H H2 → (vc = .non ∨ ∃ b, vc = .ref b ∧ GoodE (bs ++ [y]) (l + 2) (nw H H2) (.ref b)) →
          tSeq (tAsg (tCal (spExp n) E0 (tCons (tVar 0) (tCons (tVar 1) (tCons (tCal spDigit E0 (tCons (tVar 0) (tCons (tC (.int 4)) tNil))) (tCons (tOp rCat (tVar 3) (tLst (tCons (tVar 4) tNil))) tNil))))) (gName 6))
            (tRet (tTup (tCons (tC (.str "gather")) (tCons (tVar 6) (tCons (tVar 4) (tCons (tCal (spExp n) E0 (tCons (tVar 0) (tCons (tVar 1) (tCons (tC (.int 4)) (tCons (tVar 3) tNil))))) (tCons (tVar 5) tNil)))))))
            { nx := fun _ H' => Q .non H', rt := Q } [some (.ref S), some (.int (l : Nat)), some (.int wn), some (.ref B), some (.str y), some vc, none, none] H2 := fun vc H2 c2 gc =>
        setS ⟨_, rfl, _, rfl, dig rfl rfl c2.st (by decide) (by decide) fun i H3 i0 i1 c3 _ => with1 (some vc) (c2.trans c3) i0 (by omega) fun v1 H4 c4 c34 g1 => ⟨_, rfl, _, rfl, _, rfl, _, rfl, _, rfl, one c4 (by decide) (by decide) fun v2 H5 c5 c45 g2 => ⟨_, rfl, fin v1 v2 vc H5 c5 (g1.mono (nw_ch st c45)) g2 (gc.imp_right fun ⟨b, e, g⟩ => ⟨b, e, g.mono (nw_ch st ((c3.trans c34).trans c45))⟩)⟩⟩⟩
      refine dig (E := E0) rfl rfl c1.st (by decide) (by decide) fun j H2 _ _ c2 _ => ⟨rfl, _, congrArg V.bl dec_int, ite2 (fun _ => ?_) fun _ => ?_⟩
      · refine asgN ⟨_, rfl, _, rfl, with1 (some .non) (c1.trans c2) (by decide) (by decide) fun v H3 c3 _ g => ?_⟩
        obtain ⟨b, rfl⟩ : ∃ b, v = .ref b := by
          obtain ⟨x, r, _⟩ := g
          cases r <;> exact ⟨_, rfl⟩
        exact rest (.ref b) H3 c3 (.inr ⟨b, rfl, g⟩)
      · exact rest .non H2 (c1.trans c2) (.inl rfl)
  · refine digIf rfl st (by decide) (by decide) (fun H1 c1 => ?_) fun H1 c1 => ?_
    · have hB1 := c1.off _ _ nBS hB
      refine ⟨_, rfl, _, rfl, _, rfl, S, B, l, bs, rfl, hl, c1.st, nBS, hB1, by omega, hb, fun L acc H2 c2 hL la he => ⟨by show 3 ≤ sizeLine; decide, fun p hp => ?_⟩⟩
      have c12 := c1.trans c2
      have sN : Same (nw H1 H2) (nw H (upd H2 p (.tup [.str "act", .str "go", .ref L]))) := fun b o e => nw_upd hp b o (nw_old st c1 b o e)
      obtain ⟨xs, rs, ls, ln, os⟩ := elsE fun y hy => (he y hy).mono sN
      exact q _ _ (c12.more (same_new hp _)) ⟨.act "go" xs, .act (nw_new (c12.free st hp)) (sN _ _ hL) rs, by rw [Ex.lvl]; omega, fun ks a b => by rw [Ex.ok]; exact ⟨by decide +kernel, by omega, os ks a b⟩⟩
    · have finR : ∀ (p : Addr) (ns : List Str) (H2 : Hp), Ch S H H2 → H2 p = some (.tup (ns.map V.str)) → p ≠ S → ns.Nodup → ns.length ≤ 2 → (∀ y ∈ ns, KeyOk y) →
          tRet (tTup (tCons (tC (.str "record")) (tCons (tLc (iTup K (tVar 7)) (gName 4) tYes (tTup (tCons (tVar 4) (tCons (tCal (spExp n) E0 (tCons (tVar 0) (tCons (tVar 1) (tCons (tCal spDigit E0 (tCons (tVar 0) (tCons (tC (.int 5)) tNil))) (tCons (tVar 3) tNil))))) tNil))) [4]) tNil))) { nx := fun _ H' => Q .non H', rt := Q } [some (.ref S), some (.int (l : Nat)), some (.int wn), some (.ref B), none, none, none, some (.ref p)] H2 := fun p ns H2 c2 hp np nd n2 hk => by
        have comp : ∀ Q' : VK, (∀ L acc H3, acc.length = ns.length → Ch S H2 H3 → nw H2 H3 L = some (.lst acc) → (∀ i y, acc[i]? = some y → ∃ nm r v, ns[i]? = some nm ∧ y = V.ref r ∧ nw H2 H3 r = some (.tup [.str nm, v]) ∧ GoodE bs (l + 2) (nw H2 H3) v) → Q' (.ref L) H3) →
            tLc (iTup K (tVar 7)) (gName 4) tYes (tTup (tCons (tVar 4) (tCons (tCal (spExp n) E0 (tCons (tVar 0) (tCons (tVar 1) (tCons (tCal spDigit E0 (tCons (tVar 0) (tCons (tC (.int 5)) tNil))) (tCons (tVar 3) tNil))))) tNil))) [4] [some (.ref S), some (.int (l : Nat)), some (.int wn), some (.ref B), none, none, none, some (.ref p)] H2 Q' := fun Q' q' => by
          refine ⟨_, rfl, p, rfl, ⟨_, .inl (.inl hp)⟩, ?_⟩
          refine lc_chI (n := (ns.map V.str).length) walk_tup c2.st (fun i G y => ∃ nm r v, ns[i]? = some nm ∧ y = V.ref r ∧ G r = some (.tup [.str nm, v]) ∧ GoodE bs (l + 2) G v) (fun i G G' y s ⟨nm, r, v, a, b, c, d⟩ => ⟨nm, r, v, a, b, s _ _ c, d.mono s⟩) (small1000 (by rw [List.length_map]; omega)) (fun H3 c3 => .inl (.inl (c3.off _ _ np hp))) (fun j x H3 H' Qk hj c3 hy => ⟨hy.1, fun qk => ?_⟩) fun L acc H3 la c3 hL he => q' L acc H3 (by rw [la, List.length_map]) c3 hL he
          have hx := hy.2
          rw [List.getElem?_map] at hx
          obtain ⟨nm, hn, rfl⟩ := Option.map_eq_some_iff.mp hx
          have hB3 := c3.off _ _ nBS (c2.off _ _ nBS hB)
          refine ⟨_, rfl, _, rfl, _, rfl, dig rfl rfl c3.st (by decide) (by decide) fun i H4 i0 i1 c4 _ => ⟨_, rfl, exp_call (E := E0) hl c4.st nBS (c4.off _ _ nBS hB3) (by omega) hb i0 (by omega) fun v H5 c5 g => ⟨by show 2 ≤ sizeLine; decide, fun r hr => ?_⟩⟩⟩
          have c45 := c4.trans c5
          exact qk _ _ (c45.more (same_new hr _)) ⟨nm, r, v, hn, rfl, nw_new (c45.free c3.st hr), (g.mono (nw_old c3.st c4)).mono (nw_upd hr)⟩
        refine retTup2 (comp _ fun L acc H3 la c3 hL he => ⟨by decide, fun r hr => ?_⟩)
        have c23 := c2.trans c3
        have sN : Same (nw H2 H3) (nw H (upd H3 r (.tup [.str "record", .ref L]))) := fun b o e => nw_upd hr b o (nw_old st c2 b o e)
        obtain ⟨xs, rs, ls, ln, os⟩ := elsR (bs := bs) (m := l + 2) (G := nw H (upd H3 r (.tup [.str "record", .ref L]))) la fun i u nm hu hn => by
          obtain ⟨nm', r', v, a, b, c, d⟩ := he i u hu
          rw [hn] at a
          cases a
          exact ⟨r', v, b, sN _ _ c, d.mono sN⟩
        exact q _ _ (c23.more (same_new hr _)) ⟨.rcd ns xs, .rcd (nw_new (c23.free st hr)) (sN _ _ hL) rs, by rw [Ex.lvl]; omega, fun ks a b => by rw [Ex.ok]; exact ⟨nd, ln.symm, by omega, hk, os ks a b⟩⟩
      refine setS ⟨by show 1 ≤ sizeLine; decide, fun p0 g0 => ⟨by show 2 ≤ sizeLine; decide, fun p1 g1 => ⟨by show 2 ≤ sizeLine; decide, fun p2 g2 => ⟨by show 0 ≤ sizeLine; decide, fun p3 g3 => ⟨by show 4 ≤ sizeLine; decide, fun t gt => ?_⟩⟩⟩⟩⟩
      have s0 := same_new g0 (.tup [.str "x"])
      have s1 := same_new g1 (.tup [.str "x", .str "y"])
      have s2 := same_new g2 (.tup [.str "zz", .str "x"])
      have s3 := same_new g3 (.tup [])
      have s4 := same_new gt (.tup [.ref p0, .ref p1, .ref p2, .ref p3])
      have sA := (((s0.trans s1).trans s2).trans s3).trans s4
      have cA := c1.more sA
      have nS : ∀ b, H1 b = none → b ≠ S := fun b hb z => by obtain ⟨u, e⟩ := c1.st.some; rw [← z, hb] at e; cases e
      have m0 := nS _ g0
      have m1 := nS _ (s0.free g1)
      have m2 := nS _ ((s0.trans s1).free g2)
      have m3 := nS _ (((s0.trans s1).trans s2).free g3)
      have mt := nS _ ((((s0.trans s1).trans s2).trans s3).free gt)
      refine dig rfl rfl cA.st (by decide) (by decide) fun j H5 j0 j1 c5 _ => ?_
      have cF := cA.trans c5
      have h0 := c5.off _ _ m0 ((((s1.trans s2).trans s3).trans s4) _ _ (upd_same (H := H1) (a := p0) (o := .tup [.str "x"])))
      have h1 := c5.off _ _ m1 (((s2.trans s3).trans s4) _ _ upd_same)
      have h2 := c5.off _ _ m2 ((s3.trans s4) _ _ upd_same)
      have h3 := c5.off _ _ m3 (s4 _ _ upd_same)
      have ht := c5.off _ _ mt upd_same
      have hj : j = 0 ∨ j = 1 ∨ j = 2 ∨ j = 3 := by omega
      have ok4 : ∀ {ns : List Str}, (∀ y ∈ ns, y ∈ [("x" : Str), "y", "zz", ""]) → ∀ y ∈ ns, KeyOk y := fun h y hy => (names4 (h y hy)).1
      rcases hj with e | e | e | e
      · subst e
        exact ⟨t, _, 0, .ref p0, rfl, rfl, .inl (.inl ht), rfl, finR p0 ["x"] H5 cF h0 m0 (by decide +kernel) (by decide) (ok4 (by decide +kernel))⟩
      · subst e
        exact ⟨t, _, 1, .ref p1, rfl, rfl, .inl (.inl ht), rfl, finR p1 ["x", "y"] H5 cF h1 m1 (by decide +kernel) (by decide) (ok4 (by decide +kernel))⟩
      · subst e
        exact ⟨t, _, 2, .ref p2, rfl, rfl, .inl (.inl ht), rfl, finR p2 ["zz", "x"] H5 cF h2 m2 (by decide +kernel) (by decide) (ok4 (by decide +kernel))⟩
      · subst e
        exact ⟨t, _, 3, .ref p3, rfl, rfl, .inl (.inl ht), rfl, finR p3 [] H5 cF h3 m3 (by decide +kernel) (by decide) (ok4 (by decide +kernel))⟩
end
end Vk
set_option maxHeartbeats 4000000
/-! the law draws: expressions -/
namespace Vk
open PySem PySem.Spec PyProof.Rows L2
/-- ifs on the drawn choice -/
theorem digF {t r : TS} {D : Ends} {σ : L2.St} {H : Hp} {i : Nat} {a c : Int} (h1 : σ[i]? = some (some (.int a))) (x : a = c → t { D with nx := r D } σ H) (y : a ≠ c → r D σ H) : tSeq (tIfS (tTest (tOp rEq (tVar i) (tC (.int c)))) t tNext) r D σ H :=
  if_pureN (p := a == c) (fun Q q => ⟨_, h1, rfl, _, congrArg V.bl dec_int, q⟩) (fun h => x (by simpa using h)) fun h => y (by simpa using h)
theorem set_self {σ : L2.St} {j : Nat} {a : Option V} (h : σ[j]? = some a) : σ.set j a = σ := by
  refine List.ext_getElem? fun i => ?_
  rw [List.getElem?_set]
  split
  · rename_i e
    subst e
    split
    · exact h.symm
    · rename_i hl
      rw [List.getElem?_eq_none (by omega)]
  · rfl
/-- if digit == c: name = v -/
theorem digSet {r : TS} {D : Ends} {σ : L2.St} {H : Hp} {S : Addr} {i j : Nat} {m c : Int} {v old : V} (h1 : σ[i]? = some (some (.ref S))) (st : St S H) (h0 : 0 < m) (hm : m < 1073741824) (ho : σ[j]? = some (some old)) (b : ∀ H' x, Ch S H H' → (x = v ∨ x = old) → r D (σ.set j (some x)) H') :
    tSeq (tIfS (tTest (tOp rEq (tCal spDigit E0 (tCons (tVar i) (tCons (tC (.int m)) tNil))) (tC (.int c)))) (tAsg (tC v) (gName j)) tNext) r D σ H :=
  digIf h1 st h0 hm (fun H' c1 => b H' v c1 (.inl rfl)) fun H' c1 => by
    have := b H' old c1 (.inr rfl)
    rw [set_self ho] at this
    exact this
/-- an expression is a tuple, its word first -/
theorem ERep.word {H : Hp} {v : V} {x : Ex} (r : ERep H v x) : ∃ a s ws, v = .ref a ∧ H a = some (.tup (.str s :: ws)) ∧ (s = "name" → ∃ y, ws = [.str y]) := by
  cases r with
  | name h => exact ⟨_, _, _, rfl, h, fun _ => ⟨_, rfl⟩⟩
  | null h => exact ⟨_, _, _, rfl, h, fun e => absurd e (by decide +kernel)⟩
  | tru h => exact ⟨_, _, _, rfl, h, fun e => absurd e (by decide +kernel)⟩
  | fls h => exact ⟨_, _, _, rfl, h, fun e => absurd e (by decide +kernel)⟩
  | num h => exact ⟨_, _, _, rfl, h, fun e => absurd e (by decide +kernel)⟩
  | txt h => exact ⟨_, _, _, rfl, h, fun e => absurd e (by decide +kernel)⟩
  | bin h _ _ => exact ⟨_, _, _, rfl, h, fun e => absurd e (by decide +kernel)⟩
  | choice h _ _ _ => exact ⟨_, _, _, rfl, h, fun e => absurd e (by decide +kernel)⟩
  | gather h _ _ => exact ⟨_, _, _, rfl, h, fun e => absurd e (by decide +kernel)⟩
  | gatherIf h _ _ _ => exact ⟨_, _, _, rfl, h, fun e => absurd e (by decide +kernel)⟩
  | fn h _ _ => exact ⟨_, _, _, rfl, h, fun e => absurd e (by decide +kernel)⟩
  | lst h _ _ => exact ⟨_, _, _, rfl, h, fun e => absurd e (by decide +kernel)⟩
  | rcd h _ _ => exact ⟨_, _, _, rfl, h, fun e => absurd e (by decide +kernel)⟩
  | act h _ _ => exact ⟨_, _, _, rfl, h, fun e => absurd e (by decide +kernel)⟩
  | neg h _ => exact ⟨_, _, _, rfl, h, fun e => absurd e (by decide +kernel)⟩
  | not h _ => exact ⟨_, _, _, rfl, h, fun e => absurd e (by decide +kernel)⟩
  | field h _ => exact ⟨_, _, _, rfl, h, fun e => absurd e (by decide +kernel)⟩
  | item h _ _ => exact ⟨_, _, _, rfl, h, fun e => absurd e (by decide +kernel)⟩
theorem in3T {K : PySem.W.Frag} {σ : L2.St} {H : Hp} {i : Nat} {x : Int} (h : σ[i]? = some (some (.int x))) : ∃ p, Tst (tTest (tOp (rIn K false) (tVar i) (tTup (tCons (tC (.int 0)) (tCons (tC (.int 4)) (tCons (tC (.int 5)) tNil)))))) σ H p :=
  ⟨_, fun Q q => ⟨_, h, by show 3 ≤ sizeLine; decide, fun T hT => ⟨T, _, rfl, .inr (.inl (.inl upd_same)), rfl, rfl, _, rfl, by rw [if_neg Bool.false_ne_true]; exact q _ (same_new hT _)⟩⟩⟩
theorem rowT {K : PySem.W.Frag} {σ : L2.St} {H : Hp} {A S : Addr} {s : Str} {ws : List V} {Q : Bool → Hp → Prop} (h : σ[7]? = some (some (.ref A))) (hA : H A = some (.tup (.str s :: ws))) (hn : s = "name" → ∃ y, ws = [.str y]) (h0 : σ[0]? = some (some (.ref S))) (st : St S H) (q : ∀ b H', Ch S H H' → Q b H') :
    tOr (tAnd (tTest (tOp rEq (tOp (rIxT K) (tVar 7) (tC (.int 0))) (tC (.str "name")))) (tTest (tOp rEq (tOp (rIxT K) (tVar 7) (tC (.int 1))) (tC (.str "r"))))) (tTest (tOp rEq (tCal spDigit E0 (tCons (tVar 0) (tCons (tC (.int 4)) tNil))) (tC (.int 0)))) σ H Q := by
  have first : ∃ p, PureT (tAnd (tTest (tOp rEq (tOp (rIxT K) (tVar 7) (tC (.int 0))) (tC (.str "name")))) (tTest (tOp rEq (tOp (rIxT K) (tVar 7) (tC (.int 1))) (tC (.str "r"))))) σ H p := by
    by_cases e : s = "name"
    · obtain ⟨y, rfl⟩ := hn e
      exact ⟨_, PureT.and (p := decide (V.str s = V.str "name")) (p' := decide (V.str y = V.str "r")) (fun Q q => at_tup 0 h hA rfl ⟨rfl, _, rfl, q⟩) fun _ Q q => at_tup 1 h hA rfl ⟨rfl, _, rfl, q⟩⟩
    · exact ⟨_, PureT.and (p := decide (V.str s = V.str "name")) (p' := false) (fun Q q => at_tup 0 h hA rfl ⟨rfl, _, rfl, q⟩) fun c => absurd (by simpa using c) e⟩
  obtain ⟨p, hp⟩ := first
  refine hp _ ?_
  cases p with
  | true => exact (if_pos rfl).mpr (q _ _ (.refl st))
  | false => exact (if_neg Bool.false_ne_true).mpr (dig h0 rfl st (by decide) (by decide) fun i H1 _ _ c1 _ => ⟨rfl, _, rfl, q _ _ c1⟩)
section
variable {w : World} {K : PySem.W.Frag} {mg : Str → Option Value} {base : Heap} {n k : Nat}
abbrev s_L_expression : Stmt := topS 96
theorem sc_L_expression : FnScope ["_law_state", "_law_levels", "_law_want", "_law_bound", "_law_choice", "_law_when", "_law_first", "_law_row"] ["_law_state", "_law_levels", "_law_want", "_law_bound"] (defScope s_L_expression) := ⟨rfl, rfl, rfl, by decide +kernel, rfl, by decide +kernel, by decide +kernel⟩
theorem cal_L_expression (D : DefA K mg "_law_expression" s_L_expression) (z : Nm mg) (hk : 4 ≤ k) (c__law_digit : Cal PP w K mg base CX0 1 "_law_digit" ["_law_state", "_law_many_here"] spDigit) (c__law_leaf : Cal PP w K mg base CX0 4 "_law_leaf" ["_law_state", "_law_want", "_law_bound"] spLeaf)
    (c__law_expression : Cal PP w K mg base CX0 k "_law_expression" ["_law_state", "_law_levels", "_law_want", "_law_bound"] (spExp n)) (c__law_function : Cal PP w K mg base CX0 k "_law_function" ["_law_state", "_law_levels", "_law_want", "_law_bound"] (spExq n))
    (c__law_made_of : Cal PP w K mg base CX0 k "_law_made_of" ["_law_state", "_law_levels", "_law_want", "_law_bound"] (spExq n)) (c__law_signed : Cal PP w K mg base CX0 k "_law_signed" ["_law_state", "_law_levels", "_law_want", "_law_bound"] (spExq n)) :
    Cal PP w K mg base CX0 (k + 1) "_law_expression" ["_law_state", "_law_levels", "_law_want", "_law_bound"] (spExp (n + 1)) := by
  have c__law_digit := c__law_digit.mono (show 1 ≤ k by omega)
  have c__law_leaf := c__law_leaf.mono hk
  refine cal_mk D sc_L_expression (fun _ _ _ _ _ _ us hl => match us, hl with | [_, _, _, _], _ => rfl) (fun vs H Q E h => ?_) (fun f cdv A outer s H vs Q E hr h => ?_)
  · obtain ⟨S, B, l, wn, bs, rfl, _⟩ := h
    rfl
  obtain ⟨S, B, l, wn, bs, rfl, hl, st, nBS, hB, lb, hb, w0, w5, q⟩ := h
  refine ⟨_, (pss_cons (ps_if (pt_cmpR op_eq (pe_cal c__law_digit hr (by rfl) (pa_cons (pv 0) (pa_cons pe_int pa_nil))) pe_int (nomark _)) (pss_one (ps_set (i := 2) sc_L_expression.nd rfl (Or.inl rfl) pe_int)) pss_nil)
    (pss_cons (ps_if (PW.pt (pw_or (pt_cmpR op_eq (pv 1) pe_int (nomark _)) (pw_or1 (pt_cmpR op_eq (pe_ix ix_list (pv 0) pe_int (fun _ _ => rfl)) pe_int (nomark _))))) (pss_one (ps_ret (pe_cal c__law_leaf hr (by rfl) (pa_cons (pv 0) (pa_cons (pv 2) (pa_cons (pv 3) pa_nil)))))) pss_nil)
    (pss_cons (ps_set (i := 4) sc_L_expression.nd rfl (Or.inl rfl) (pe_cal c__law_digit hr (by rfl) (pa_cons (pv 0) (pa_cons pe_int pa_nil))))
    (pss_cons (ps_if (pt_cmpR op_eq (pv 4) pe_int (nomark _)) (pss_one (ps_ret (pe_cal c__law_leaf hr (by rfl) (pa_cons (pv 0) (pa_cons (pv 2) (pa_cons (pv 3) pa_nil)))))) pss_nil)
    (pss_cons (ps_if (pt_cmpR op_eq (pv 4) pe_int (nomark _)) (pss_cons (ps_set (i := 5) sc_L_expression.nd rfl (Or.inl rfl) (pe_cal c__law_expression hr (by rfl) (pa_cons (pv 0) (pa_cons (pe_op op_sub (pv 1) pe_int) (pa_cons pe_int (pa_cons (pv 3) pa_nil))))))
    (pss_cons (ps_set (i := 6) sc_L_expression.nd rfl (Or.inl rfl) (pe_cal c__law_expression hr (by rfl) (pa_cons (pv 0) (pa_cons (pe_op op_sub (pv 1) pe_int) (pa_cons (pv 2) (pa_cons (pv 3) pa_nil))))))
    (pss_one (ps_ret (pe_tup (pa_cons pe_str (pa_cons (pv 5) (pa_cons (pv 6) (pa_cons (pe_cal c__law_expression hr (by rfl) (pa_cons (pv 0) (pa_cons (pe_op op_sub (pv 1) pe_int) (pa_cons (pv 2) (pa_cons (pv 3) pa_nil))))) pa_nil))))))))) pss_nil)
    (pss_cons (ps_if (pt_cmpR op_eq (pv 4) pe_int (nomark _)) (pss_cons (ps_set (i := 7) sc_L_expression.nd rfl (Or.inl rfl) (pe_cal c__law_expression hr (by rfl) (pa_cons (pv 0) (pa_cons (pe_op op_sub (pv 1) pe_int) (pa_cons (pe_ix ix_tup (pe_tup (pa_cons pe_int (pa_cons pe_int pa_nil))) (pe_cal c__law_digit hr (by rfl) (pa_cons (pv 0) (pa_cons pe_int pa_nil))) (fun _ _ => rfl)) (pa_cons (pv 3) pa_nil))))))
    (pss_cons (ps_if (PW.pt (pw_or (PW.pt (pw_and (pt_cmpR op_eq (pe_ix ix_tup (pv 7) pe_int (fun _ _ => rfl)) pe_str (nomark _)) (pw_and1 (pt_cmpR op_eq (pe_ix ix_tup (pv 7) pe_int (fun _ _ => rfl)) pe_str (nomark _))))) (pw_or1 (pt_cmpR op_eq (pe_cal c__law_digit hr (by rfl) (pa_cons (pv 0) (pa_cons pe_int pa_nil))) pe_int (nomark _))))) (pss_one (ps_ret (pe_tup (pa_cons pe_str (pa_cons (pv 7) (pa_cons (pe_ix ix_tup (pe_tup (pa_cons pe_str (pa_cons pe_str (pa_cons pe_str pa_nil)))) (pe_cal c__law_digit hr (by rfl) (pa_cons (pv 0) (pa_cons pe_int pa_nil))) (fun _ _ => rfl)) pa_nil)))))) pss_nil)
    (pss_one (ps_ret (pe_tup (pa_cons pe_str (pa_cons (pv 7) (pa_cons (pe_cal c__law_expression hr (by rfl) (pa_cons (pv 0) (pa_cons (pe_op op_sub (pv 1) pe_int) (pa_cons (pe_ix ix_tup (pe_tup (pa_cons pe_int (pa_cons pe_int (pa_cons pe_int pa_nil)))) (pe_cal c__law_digit hr (by rfl) (pa_cons (pv 0) (pa_cons pe_int pa_nil))) (fun _ _ => rfl)) (pa_cons (pv 3) pa_nil))))) pa_nil)))))))) pss_nil)
    (pss_cons (ps_if (pt_cmpR op_lt (pv 4) pe_int (nomark _)) (pss_one (ps_ret (pe_cal c__law_function hr (by rfl) (pa_cons (pv 0) (pa_cons (pe_op op_sub (pv 1) pe_int) (pa_cons (pv 2) (pa_cons (pv 3) pa_nil))))))) pss_nil)
    (pss_cons (ps_if (pt_cmpR op_in_seq (pv 2) (pe_tup (pa_cons pe_int (pa_cons pe_int (pa_cons pe_int pa_nil)))) rfl) (pss_one (ps_ret (pe_cal c__law_made_of hr (by rfl) (pa_cons (pv 0) (pa_cons (pe_op op_sub (pv 1) pe_int) (pa_cons (pv 2) (pa_cons (pv 3) pa_nil))))))) pss_nil)
    (pss_cons (ps_if (PW.pt (pw_and (pt_cmpR op_eq (pv 4) pe_int (nomark _)) (pw_and1 (pt_cmpR op_eq (pv 2) pe_int (nomark _))))) (pss_one (ps_ret (pe_tup (pa_cons pe_str (pa_cons (pe_cal c__law_expression hr (by rfl) (pa_cons (pv 0) (pa_cons (pe_op op_sub (pv 1) pe_int) (pa_cons pe_int (pa_cons (pv 3) pa_nil))))) pa_nil))))) pss_nil)
    (pss_cons (ps_if (PW.pt (pw_and (pt_cmpR op_eq (pv 4) pe_int (nomark _)) (pw_and1 (pt_cmpR op_eq (pv 2) pe_int (nomark _))))) (pss_one (ps_ret (pe_tup (pa_cons pe_str (pa_cons (pe_cal c__law_expression hr (by rfl) (pa_cons (pv 0) (pa_cons (pe_op op_sub (pv 1) pe_int) (pa_cons pe_int (pa_cons (pv 3) pa_nil))))) pa_nil))))) pss_nil)
    (pss_one (ps_ret (pe_cal c__law_signed hr (by rfl) (pa_cons (pv 0) (pa_cons (pe_op op_sub (pv 1) pe_int) (pa_cons (pv 2) (pa_cons (pv 3) pa_nil))))))))))))))))), ?_⟩
  have leaf : ∀ (wn : Int) (H1 : Hp), Ch S H H1 → 0 ≤ wn → wn ≤ 5 → spLeaf [.ref S, .int wn, .ref B] H1 Q E0 := fun wn H1 c1 a b => ⟨S, B, wn, bs, rfl, c1.st, nBS, c1.off _ _ nBS hB, by omega, a, b, fun v H2 c2 g => q v H2 (c1.trans c2) ((g.mono (nw_old st c1)).wide (by omega) fun y hy => hy)⟩
  have one : ∀ {H1 : Hp} {wn : Int} {R : VK}, l ≠ 0 → Ch S H H1 → 0 ≤ wn → wn ≤ 5 → (∀ v H2, Ch S H H2 → Ch S H1 H2 → GoodE bs (l + 1) (nw H H2) v → R v H2) → spExp n [.ref S, .int (((l : Nat) : Int) - 1), .int wn, .ref B] H1 R E0 := fun {H1 wn R} l0 c1 a b r => by
    have le : (((l : Nat) : Int) - 1) = ((l - 1 : Nat) : Int) := by omega
    rw [le]
    exact exp_call (l := l - 1) (by omega) c1.st nBS (c1.off _ _ nBS hB) (by omega) hb a b fun v H2 c2 g => r v H2 (c1.trans c2) c2 ((g.mono (nw_old st c1)).wide (by omega) fun y hy => hy)
  have sub : ∀ {H1 : Hp} {wn : Int}, l ≠ 0 → Ch S H H1 → 0 ≤ wn → wn ≤ 5 → spExq n [.ref S, .int (((l : Nat) : Int) - 1), .int wn, .ref B] H1 Q E0 := fun {H1 wn} l0 c1 a b => by
    have le : (((l : Nat) : Int) - 1) = ((l - 1 : Nat) : Int) := by omega
    rw [le]
    exact ⟨S, B, l - 1, wn, bs, rfl, by omega, c1.st, nBS, c1.off _ _ nBS hB, by omega, hb, a, b, fun v H2 c2 g => q v H2 (c1.trans c2) ((g.mono (nw_old st c1)).wide (by omega) fun y hy => hy)⟩
  refine digSet (old := .int wn) rfl st (by decide) (by decide) rfl fun H1 x c1 hx => ?_
  obtain ⟨wn, rfl, w0, w5⟩ : ∃ i : Int, x = .int i ∧ 0 ≤ i ∧ i ≤ 5 := by
    rcases hx with e | e
    · exact ⟨0, e, by decide, by decide⟩
    · exact ⟨wn, e, w0, w5⟩
  obtain ⟨sn, sn0, hS⟩ := c1.st
  refine if_pureN (p := ((l : Int) == 0) || (sn == 0)) (PureT.or (fun Q q => ⟨_, rfl, rfl, _, congrArg V.bl dec_int, q⟩) fun _ Q q => at_list 0 rfl hS rfl ⟨rfl, _, congrArg V.bl dec_int, q⟩) (fun _ => ⟨_, rfl, _, rfl, _, rfl, leaf wn H1 c1 w0 w5⟩) fun hn => ?_
  have l0 : l ≠ 0 := fun e => by rw [e] at hn; simp at hn
  refine setS (dig rfl rfl c1.st (by decide) (by decide) fun ch H2 i0 i1 c2 _ => ?_)
  have c12 := c1.trans c2
  refine digF rfl (fun _ => ⟨_, rfl, _, rfl, _, rfl, leaf wn H2 c12 w0 w5⟩) fun n0 => digF rfl (fun _ => ?_) fun n1 => digF rfl (fun _ => ?_) fun n2 => if_pureN (p := decide (ch < 5)) (fun Q q => ⟨_, rfl, _, _, rfl, rfl, _, rfl, q⟩) (fun _ => ⟨_, rfl, _, rfl, _, _, rfl, rfl, _, rfl, _, rfl, sub l0 c12 w0 w5⟩) fun n3 => ?_
  · refine setS ⟨_, rfl, _, rfl, _, _, rfl, rfl, _, rfl, one l0 c12 (by decide) (by decide) fun v1 H3 c3 _ g1 => setS ⟨_, rfl, _, rfl, _, _, rfl, rfl, _, rfl, _, rfl, one l0 c3 w0 w5 fun v2 H4 c4 c34 g2 => ⟨_, rfl, _, rfl, _, rfl, _, rfl, _, _, rfl, rfl, _, rfl, _, rfl, one l0 c4 w0 w5 fun v3 H5 c5 c45 g3 => ⟨by show 4 ≤ sizeLine; decide, fun p hp => ?_⟩⟩⟩⟩
    have sN := nw_upd (H := H) hp (o := .tup [.str "choice", v1, v2, v3])
    obtain ⟨x, r1, l1, o1⟩ := (g1.mono (nw_ch st (c34.trans c45))).mono sN
    obtain ⟨y, r2, l2, o2⟩ := (g2.mono (nw_ch st c45)).mono sN
    obtain ⟨z, r3, l3, o3⟩ := g3.mono sN
    exact q _ _ (c5.more (same_new hp _)) ⟨.choice x y z, .choice (nw_new (c5.free st hp)) r1 r2 r3, by rw [Ex.lvl]; omega, fun ks a b => by rw [Ex.ok]; exact ⟨o1 ks a b, o2 ks a b, o3 ks a b⟩⟩
  · refine setS ⟨_, rfl, _, rfl, _, _, rfl, rfl, pickT (ws := [.int 4, .int 5]) (fun H R r => r) rfl c12.st (by decide) rfl (by decide) fun kd H3 hv c3 => ?_⟩
    obtain ⟨kd, rfl, k0, k5⟩ : ∃ i : Int, kd = .int i ∧ 0 ≤ i ∧ i ≤ 5 := by
      rcases List.mem_cons.mp hv with e | hv
      · exact ⟨4, e, by decide, by decide⟩
      · exact ⟨5, List.mem_singleton.mp hv, by decide, by decide⟩
    refine ⟨_, rfl, one l0 (c12.trans c3) k0 k5 fun v1 H4 c4 _ g1 => ?_⟩
    obtain ⟨A, s, ws, rfl, hA, hs⟩ : ∃ A s ws, v1 = V.ref A ∧ nw H H4 A = some (.tup (.str s :: ws)) ∧ (s = "name" → ∃ y, ws = [.str y]) := by
      obtain ⟨x, r, _⟩ := g1
      exact r.word
    refine rowT (s := s) (ws := ws) rfl (nw_some hA).2 hs rfl c4.st fun b H5 c5 => ite2 (fun _ => ?_) fun _ => ?_
    · refine ⟨_, rfl, pickT (ws := [.str "x", .str "y", .str "zz"]) (fun H R r => r) rfl c5.st (by decide) rfl (by decide) fun nm H6 hv c6 => ?_⟩
      obtain ⟨y, rfl, ly⟩ : ∃ y : Str, nm = .str y ∧ y.length ≤ 100 := by
        rcases List.mem_cons.mp hv with e | hv
        · exact ⟨_, e, by decide +kernel⟩
        rcases List.mem_cons.mp hv with e | hv
        · exact ⟨_, e, by decide +kernel⟩
        · exact ⟨_, List.mem_singleton.mp hv, by decide +kernel⟩
      have c46 := c5.trans c6
      have c06 := c4.trans c46
      refine ⟨by show 3 ≤ sizeLine; decide, fun p hp => ?_⟩
      obtain ⟨x, r1, l1, o1⟩ := (g1.mono (nw_ch st c46)).mono (nw_upd (H := H) hp (o := .tup [.str "field", .ref A, .str y]))
      exact q _ _ (c06.more (same_new hp _)) ⟨.field x y, .field (nw_new (c06.free st hp)) r1, by rw [Ex.lvl]; omega, fun ks a b => by rw [Ex.ok]; exact ⟨ly, o1 ks a b⟩⟩
    · refine ⟨_, rfl, _, rfl, _, rfl, _, _, rfl, rfl, pickT (ws := [.int 1, .int 1, .int 3]) (fun H R r => r) rfl c5.st (by decide) rfl (by decide) fun kd H6 hv c6 => ?_⟩
      obtain ⟨kd, rfl, k0, k5⟩ : ∃ i : Int, kd = .int i ∧ 0 ≤ i ∧ i ≤ 5 := by
        rcases List.mem_cons.mp hv with e | hv
        · exact ⟨1, e, by decide, by decide⟩
        rcases List.mem_cons.mp hv with e | hv
        · exact ⟨1, e, by decide, by decide⟩
        · exact ⟨3, List.mem_singleton.mp hv, by decide, by decide⟩
      have c46 := c5.trans c6
      have c06 := c4.trans c46
      refine ⟨_, rfl, one l0 c06 k0 k5 fun v2 H7 c7 c67 g2 => ⟨by show 3 ≤ sizeLine; decide, fun p hp => ?_⟩⟩
      have sN := nw_upd (H := H) hp (o := .tup [.str "item", .ref A, v2])
      obtain ⟨x, r1, l1, o1⟩ := (g1.mono (nw_ch st (c46.trans c67))).mono sN
      obtain ⟨y, r2, l2, o2⟩ := g2.mono sN
      exact q _ _ (c7.more (same_new hp _)) ⟨.item x y, .item (nw_new (c7.free st hp)) r1 r2, by rw [Ex.lvl]; omega, fun ks a b => by rw [Ex.ok]; exact ⟨o1 ks a b, o2 ks a b⟩⟩
  · obtain ⟨pin, hin⟩ := in3T (K := K) (σ := [some (.ref S), some (.int (l : Nat)), some (.int wn), some (.ref B), some (.int ch), none, none, none]) (H := H2) (i := 2) (x := wn) rfl
    refine if_tstN hin (fun _ H3 sT => ⟨_, rfl, _, rfl, _, _, rfl, rfl, _, rfl, _, rfl, sub l0 (c12.more sT) w0 w5⟩) fun _ HT sT => ?_
    have cT := c12.more sT
    refine if_pureN (p := (ch == 5) && (wn == 1)) (PureT.and (fun Q q => ⟨_, rfl, rfl, _, congrArg V.bl dec_int, q⟩) fun _ Q q => ⟨_, rfl, rfl, _, congrArg V.bl dec_int, q⟩) (fun _ => ?_) fun _ => if_pureN (p := (ch == 5) && (wn == 2)) (PureT.and (fun Q q => ⟨_, rfl, rfl, _, congrArg V.bl dec_int, q⟩) fun _ Q q => ⟨_, rfl, rfl, _, congrArg V.bl dec_int, q⟩) (fun _ => ?_) fun _ => ⟨_, rfl, _, rfl, _, _, rfl, rfl, _, rfl, _, rfl, sub l0 cT w0 w5⟩
    · refine ⟨_, rfl, _, rfl, _, _, rfl, rfl, _, rfl, one l0 cT (by decide) (by decide) fun v1 H3 c3 _ g1 => ⟨by show 2 ≤ sizeLine; decide, fun p hp => ?_⟩⟩
      obtain ⟨x, r1, l1, o1⟩ := g1.mono (nw_upd (H := H) hp (o := .tup [.str "minus", v1]))
      exact q _ _ (c3.more (same_new hp _)) ⟨.neg x, .neg (nw_new (c3.free st hp)) r1, by rw [Ex.lvl]; omega, fun ks a b => by rw [Ex.ok]; exact o1 ks a b⟩
    · refine ⟨_, rfl, _, rfl, _, _, rfl, rfl, _, rfl, one l0 cT (by decide) (by decide) fun v1 H3 c3 _ g1 => ⟨by show 2 ≤ sizeLine; decide, fun p hp => ?_⟩⟩
      obtain ⟨x, r1, l1, o1⟩ := g1.mono (nw_upd (H := H) hp (o := .tup [.str "not", v1]))
      exact q _ _ (c3.more (same_new hp _)) ⟨.not x, .not (nw_new (c3.free st hp)) r1, by rw [Ex.lvl]; omega, fun ks a b => by rw [Ex.ok]; exact o1 ks a b⟩
end
end Vk
set_option maxHeartbeats 4000000
/-! the law draws: all of it; the script's cells -/
namespace Vk
open PySem PySem.Spec PyProof.Rows L2
section
variable {w : World} {K : PySem.W.Frag} {mg : Str → Option Value} {base : Heap} {n k : Nat}
structure GDefs (K : PySem.W.Frag) (mg : Str → Option Value) : Prop where
  d_law_digit : DefA K mg "_law_digit" s_L_digit
  d_law_text : DefA K mg "_law_text" s_L_text
  d_law_number : DefA K mg "_law_number" s_L_number
  d_law_value : DefA K mg "_law_value" s_L_value
  d_law_literal : DefA K mg "_law_literal" s_L_literal
  d_law_leaf : DefA K mg "_law_leaf" s_L_leaf
  d_law_function : DefA K mg "_law_function" s_L_function
  d_law_many : DefA K mg "_law_many" s_L_many
  d_law_made_of : DefA K mg "_law_made_of" s_L_made_of
  d_law_signed : DefA K mg "_law_signed" s_L_signed
  d_law_expression : DefA K mg "_law_expression" s_L_expression
  d_law_environment : DefA K mg "_law_environment" s_L_environment
theorem gen_expr (D : GDefs K mg) (z : Nm mg) : ∀ n : Nat, Cal PP w K mg base CX0 (4 + 3 * n) "_law_expression" ["_law_state", "_law_levels", "_law_want", "_law_bound"] (spExp n) := by
  have dg := cal_L_digit (w := w) (base := base) D.d_law_digit z
  have tx := cal_L_text (w := w) (base := base) D.d_law_text z dg
  have nu := cal_L_number (w := w) (base := base) D.d_law_number dg
  have li := cal_L_literal (w := w) (base := base) D.d_law_literal dg tx nu
  have lf := cal_L_leaf (w := w) (base := base) D.d_law_leaf z dg li
  intro n
  induction n with
  | zero => exact (Cal.never D.d_law_expression (fun f fd F => F.bindsN fun _ _ _ _ _ _ us hl => match us, hl with | [_, _, _, _], _ => rfl) fun vs H Q E ⟨S, B, l, wn, bs, _, h, _⟩ => by omega).mono (Nat.zero_le _)
  | succ n ih =>
    have fu := cal_L_function (w := w) (base := base) D.d_law_function z (by omega) dg ih
    have mn := cal_L_many (w := w) (base := base) D.d_law_many z (by omega) dg ih
    have mo := cal_L_made_of (w := w) (base := base) D.d_law_made_of z (by omega) dg mn ih
    have sg := cal_L_signed (w := w) (base := base) D.d_law_signed z (by omega) dg ih
    exact (cal_L_expression (w := w) (base := base) (k := 4 + 3 * n + 2) D.d_law_expression z (by omega) dg lf (ih.mono (by omega)) (fu.mono (by omega)) mo (sg.mono (by omega))).mono (by omega)
theorem gen_env (D : GDefs K mg) (z : Nm mg) : Cal PP w K mg base CX0 6 "_law_environment" ["_law_state"] spEnv := by
  have dg := cal_L_digit (w := w) (base := base) D.d_law_digit z
  have tx := cal_L_text (w := w) (base := base) D.d_law_text z dg
  have nu := cal_L_number (w := w) (base := base) D.d_law_number dg
  exact cal_L_environment (w := w) (base := base) D.d_law_environment z dg tx nu (cal_L_value_n (w := w) (base := base) D.d_law_value z dg tx nu 3) ((cal_L_value_n (w := w) (base := base) D.d_law_value z dg tx nu 2).mono (by decide))
/-! ### the script -/
def spCel (K : PySem.W.Frag) : Sp := fun vs H Q _ => ∃ A, ∃ ns : List Int, ∃ k : Nat, vs = [.ref A, .int (k : Nat)] ∧ SqL K H A (ns.map V.int) ∧ ∀ i, Q (.int i) H
abbrev s_L_cell : Stmt := topS 67
theorem sc_L_cell : FnScope ["_law_script", "_law_k"] ["_law_script", "_law_k"] (defScope s_L_cell) := ⟨rfl, rfl, rfl, by decide +kernel, rfl, by decide +kernel, by decide +kernel⟩
theorem cal_L_cell (D : DefA K mg "_law_cell" s_L_cell) (z : Nm mg) : Cal PP w K mg base CX0 1 "_law_cell" ["_law_script", "_law_k"] (spCel K) := by
  refine cal_mk D sc_L_cell (fun _ _ _ _ _ _ us hl => match us, hl with | [_, _], _ => rfl) (fun vs H Q E h => ?_) (fun f cdv A outer s H vs Q E hr h => ?_)
  · obtain ⟨A, ns, k, rfl, _⟩ := h
    rfl
  obtain ⟨A, ns, k, rfl, hA, q⟩ := h
  refine ⟨_, (pss_cons (ps_if (pt_cmpR op_lt (pv 1) (pe_callB (call_lenK (K := K) rfl) (by rfl) z.len (by decide +kernel) (pa_cons (pv 0) pa_nil)) (nomark _)) (pss_one (ps_ret (pe_ix ix_list (pv 0) (pv 1) (fun _ _ => rfl)))) pss_nil)
    (pss_one (ps_ret pe_int))), ?_⟩
  refine if_pureN (p := decide ((k : Int) < ((ns.map V.int).length : Nat))) (fun Q q => ⟨_, rfl, _, rfl, .inl ⟨_, _, rfl, .inl ⟨_, hA, rfl⟩, _, _, rfl, rfl, _, rfl, q⟩⟩) (fun h => ?_) fun _ => q 0
  have hk : k < ns.length := by
    have := of_decide_eq_true h
    rw [List.length_map] at this
    omega
  have e : (ns.map V.int)[k]? = some (.int ns[k]) := by rw [List.getElem?_map, List.getElem?_eq_getElem hk]; rfl
  exact ⟨_, rfl, _, rfl, A, _, _, _, rfl, rfl, hA, atI_nat e, q _⟩
def spStart : Sp := fun vs H Q _ => ∃ c : Int, ∃ k : Nat, vs = [.int c, .int (k : Nat)] ∧ k ≤ 100 ∧ ∀ n : Int, 0 ≤ n → ∀ S, H S = none → Q (.ref S) (upd H S (.lst [.int n]))
abbrev s_L_start : Stmt := topS 68
theorem sc_L_start : FnScope ["_law_cell_here", "_law_k", "_law_prime", "_law_mixed"] ["_law_cell_here", "_law_k"] (defScope s_L_start) := ⟨rfl, rfl, rfl, by decide +kernel, rfl, by decide +kernel, by decide +kernel⟩
theorem cal_L_start (D : DefA K mg "_law_start" s_L_start) (z : Nm mg) : Cal PP w K mg base CX0 1 "_law_start" ["_law_cell_here", "_law_k"] spStart := by
  refine cal_mk D sc_L_start (fun _ _ _ _ _ _ us hl => match us, hl with | [_, _], _ => rfl) (fun vs H Q E h => ?_) (fun f cdv A outer s H vs Q E hr h => ?_)
  · obtain ⟨c, k, rfl, _⟩ := h
    rfl
  obtain ⟨c, k, rfl, hk, q⟩ := h
  refine ⟨_, (pss_cons (ps_set (i := 2) sc_L_start.nd rfl (Or.inl rfl) pe_int)
    (pss_cons (ps_if (pt_chain op_lt op_lt (pe_un un_neg pe_int) (pv 0) pe_int) (pss_cons (ps_set (i := 3) sc_L_start.nd rfl (Or.inl rfl) (pe_op op_mod (pe_callTy call_int1 (by rfl) z.int (by decide +kernel) (pa_cons (pe_op op_add (pe_op op_mulW (pv 0) pe_int) (pe_op op_mulW (pe_op op_add (pv 1) pe_int) pe_int)) pa_nil)) (pv 2)))
    (pss_one (ps_ret (pe_lst (pa_cons (pe_op op_mod (pe_callTy call_int1 (by rfl) z.int (by decide +kernel) (pa_cons (pe_op op_add (pe_op op_add (pe_op op_mulW (pv 3) (pv 3)) (pe_op op_mulW pe_int (pv 3))) (pv 1)) pa_nil)) (pv 2)) pa_nil))))) pss_nil)
    (pss_one (ps_ret (pe_lst (pa_cons (pe_callB call_abs (by rfl) z.abs (by decide +kernel) (pa_cons (pv 0) pa_nil)) pa_nil)))))), ?_⟩
  refine setS ?_
  refine if_pureN (p := decide (-1000000000000000000 < c) && decide (c < 1000000000000000000)) (fun Q q => ⟨_, rfl, _, rfl, _, _, rfl, rfl, _, rfl, ite2 (fun h => ⟨_, _, rfl, rfl, _, rfl, by rw [h, Bool.true_and] at q; exact q⟩) fun h => ⟨_, rfl, by rw [Bool.not_eq_true] at h; rw [h, Bool.false_and] at q; exact q⟩⟩) (fun h => ?_) fun h => ?_
  · have hc : c.natAbs < 2 ^ 60 := by
      have e : (2 : Nat) ^ 60 = 1152921504606846976 := by decide
      rw [Bool.and_eq_true, decide_eq_true_eq, decide_eq_true_eq] at h
      omega
    have M1 : CMulW c 2654435761 := wide_mul (a := 60) (b := 32) hc (by decide) (by decide) (by decide) (by decide)
    have M2 : CMulW ((k : Int) + 1) 6700417 := wide_mul (a := 7) (b := 23) (by have e : (2 : Nat) ^ 7 = 128 := by decide
                                                                               omega) (by decide) (by decide) (by decide) (by decide)
    refine setS ⟨_, rfl, _, _, rfl, rfl, M1, _, rfl, _, _, rfl, rfl, _, _, rfl, rfl, M2, _, _, rfl, rfl, .inl ⟨_, rfl, _, rfl, _, _, rfl, rfl, show (0 : Int) < 618970019642690137449562111 by decide, ?_⟩⟩
    obtain ⟨m, em⟩ : ∃ m : Int, m = (c * 2654435761 + ((k : Int) + 1) * 6700417) % 618970019642690137449562111 := ⟨_, rfl⟩
    have m0 : 0 ≤ m := by rw [em]; exact Int.emod_nonneg _ (by decide)
    have m1 : m < 618970019642690137449562111 := by rw [em]; exact Int.emod_lt_of_pos _ (by decide)
    have hm : m.natAbs < 2 ^ 90 := by
      have e : (2 : Nat) ^ 90 = 1237940039285380274899124224 := by decide
      omega
    have M3 : CMulW m m := wide_mul (a := 90) (b := 90) hm hm (by decide) (by decide) (by decide)
    have M4 : CMulW 7 m := wide_mul (a := 3) (b := 90) (by decide) hm (by decide) (by decide) (by decide)
    show tRet _ _ [some (.int c), some (.int (k : Nat)), some (.int 618970019642690137449562111), some (.int ((c * 2654435761 + ((k : Int) + 1) * 6700417) % 618970019642690137449562111))] H
    rw [← em]
    exact ⟨_, rfl, _, rfl, _, _, rfl, rfl, M3, _, rfl, _, _, rfl, rfl, M4, _, _, rfl, rfl, _, rfl, _, _, rfl, rfl, .inl ⟨_, rfl, _, rfl, _, _, rfl, rfl, show (0 : Int) < 618970019642690137449562111 by decide, by show 1 ≤ sizeLine; decide, fun p hp => q _ (Int.emod_nonneg _ (by decide)) p hp⟩⟩
  · exact ⟨_, rfl, _, rfl, by show 1 ≤ sizeLine; decide, fun p hp => q _ (by split <;> omega) p hp⟩
end
end Vk
set_option maxHeartbeats 4000000
/-! what the program answers, caught -/
namespace Vk
open PySem PySem.Spec PySem.Calls PyProof.Rows L2
/-- a thing whose type is c itself -/
theorem isa_self {x c : Value} {P : Heap → Prop} (ty : ∀ (M : Model) (h : Heap), P h → PySem.W.Looks M h (typeOf x) c) : Answers (fun s => P s.heap) x c true := by
  intro dep tk prog w A R s hs
  obtain ⟨h0, g, d, tt, os⟩ := s
  obtain ⟨p, hq⟩ := hs
  have LT := ty (model prog w) h0 p
  have q : (c == c) = true := by simp
  unfold Builtin.«isinstance.nested»
  refine wpAny_bind (LT.at ?_)
  rw [if_pos q]
  first
    | ((repeat lk); exact hq tt)
    | exact wpAny_bind (wpAny_rule (hq tt))
    | exact wpAny_bind (wpAny_rule (wpAny_pure (hq tt)))
theorem call_isa {X : Cx} {a : Addr} {oe : Obj} {cls : Value} {d : Option Addr} {pn : List (Addr × Obj)} (hz : Zc cls d oe) (hf : ∃ vs, oe.data = .fields vs) :
    CallR (X.suite a ((a, oe) :: pn)) (.builtin "isinstance") (fun xs H Q => ∃ (D dd : Addr) (v : V), cls = .ref D ∧ d = some dd ∧ H dd = some (msgD v) ∧ xs = [.ref a, .ref D] ∧ Q (.bl true) H) := by
  intro pins s σ H xs us Q I r h
  obtain ⟨D, dd, v, ec, ed, ea, rfl, q⟩ := h
  obtain ⟨u1, u2, rfl, r1, r2⟩ := vals2 r
  obtain rfl : u1 = Value.ref a := r1
  obtain rfl : u2 = Value.ref D := r2
  subst ec
  subst ed
  obtain ⟨ha, _⟩ := I.pin (a, oe) (List.mem_append_left _ List.mem_cons_self)
  obtain ⟨vs, hd⟩ := hf
  have hx : ObjOk X.prog X.w H s.heap dd (msgD v) := I.hok dd _ ea
  obtain ⟨mA, hns, hr⟩ := hx
  obtain ⟨od, ho, hl⟩ := lookIn_ns hns
  have J : ∀ h : Heap, h.get? a = some oe → h.get? dd = some od → PySem.W.InstAt h a oe D (some od) := fun h e1 e2 => ⟨e1, hz.1, by unfold PySem.W.notCls; rw [hd] <;> rfl, by rw [hz.2]; exact e2⟩
  refine call_isinstance (S := fun _ R s => (s.heap.get? a = some oe ∧ s.heap.get? dd = some od) ∧ ∀ tk, R (.ok (.ret (.bool true))) { s with toks := tk })
    (fun prog w A R s hs => isinstance_outer (isa_self (P := fun h => h.get? a = some oe ∧ h.get? dd = some od) (fun M h p => (J h p.1 p.2).type) 0 _ prog w A R s hs) (fun z => nomatch z)) ⟨⟨ha, ho⟩, fun tk => ⟨.bl true, H, I.tok tk, rfl, q⟩⟩
theorem call_isiX {X : Cx} {K : PySem.W.Frag} (hK : X.K = K) : CallR X (.builtin "isinstance") (rIsi K) := by
  subst hK
  exact call_isi
section
variable {X : Cx} {x : Str} {p pos : Pos} {e : Expr} {es : List Expr} {t : TA} {k : Nat} {ps : List Str} {sp : Sp} {E : L2.St → XK} {CX : CXT}
/-- f(e, ..) within a try -/
theorem pe_calW (c : Cal X.prog X.w X.K X.mg X.base CX k x ps sp) (hr : Room k X.A) (hg : Gl X x) (hx : ∀ σ, PassesAt CX X σ (E σ))
    (ha : PA X (e :: es) t) (hdb : (x == ("__debug__" : Str)) = false := by decide) (he : starEach (e :: es) X.env = (false, eval e X.env) :: starEach es X.env := by rfl) (hpl : (backTo pos (starEach es X.env)).any (·.1) = false := by rfl) :
    PE X (.Call (.Name x p) (e :: es) [] pos) (tCallS sp E t) := by
  obtain ⟨f, fd, F, hm, hk, hb⟩ := c
  exact pe_callS F hr hg hm hk hb hx ha hdb he hpl
end
/-- the answer as the law keeps it: a pair -/
def POut (H : Hp) (Q : VK) (r : Rs) : Prop := (∀ d, r = .ok d → Bd d → ∀ v p H', Same H H' → H' p = some (.tup [v, .non]) → Fresh H H' v d → Q (.ref p) H') ∧ ∀ m, r = .error m → ∀ p H', Same H H' → H' p = some (.tup [.non, .str m]) → Q (.ref p) H'
def spEvd (n : Nat) : Sp := fun vs H Q _ => ∃ v a o x ks ds, vs = [v, .ref a, .int o] ∧ ERep H v x ∧ x.ok ks ∧ x.lvl ≤ n ∧ EvIn H a ks ds o n ∧ POut H Q (ev o x ks ds)
section
variable {w : World} {K : PySem.W.Frag} {mg : Str → Option Value} {base : Heap} {n k : Nat} {C Vw fI cc cda : Addr}
abbrev s_L_evaluated : Stmt := topS 88
theorem sc_L_evaluated : FnScope ["_law_expression_here", "_law_environment_here", "_law_owner", "e"] ["_law_expression_here", "_law_environment_here", "_law_owner"] (defScope s_L_evaluated) := ⟨rfl, rfl, rfl, by decide +kernel, rfl, by decide +kernel, by decide +kernel⟩
theorem cal_L_evaluated (D : DefA K mg "_law_evaluated" s_L_evaluated) (z : Nm mg) (T : FltTxt K mg C Vw fI cc cda) (c_evaluate : Cal PP w K mg base (L2.CX PP w) k "evaluate" ["expression", "environment", "owner"] (spEv C n)) :
    Cal PP w K mg base CX0 (k + 1) "_law_evaluated" ["_law_expression_here", "_law_environment_here", "_law_owner"] (spEvd n) := by
  refine cal_mk D sc_L_evaluated (fun _ _ _ _ _ _ us hl => match us, hl with | [_, _, _], _ => rfl) (fun vs H Q E h => ?_) (fun f cdv A outer s H vs Q E hr h => ?_)
  · obtain ⟨v, a, o, x, ks, ds, rfl, _⟩ := h
    rfl
  obtain ⟨v, a, o, x, ks, ds, rfl, R, ok, lv, I, q1, q2⟩ := h
  refine ⟨_, (pss_cons (ps_try_as (i := 3) (c := .ref Vw) (Wout := fun _ _ _ _ => False) rfl rfl sc_L_evaluated.nd rfl rfl ⟨rfl, by decide, Or.inl T.gV⟩ takes0
      (fun W pn xe tk _ => pss_one (ps_ret (pe_tup (pa_cons (pe_calW (X := Cx.tr _ pn xe) c_evaluate hr (by rfl) (fun σ => passAt tk σ) (pa_cons (pv 0) (pa_cons (pv 1) (pa_cons (pv 2) pa_nil)))) (pa_cons pe_non pa_nil)))))
      (fun aa oe cls d pn hz hf => pss_one (ps_if (PW.pt (pw_and (pt_val (pe_callB (call_isa hz hf) (by rfl) z.isinstance (by decide +kernel) (pa_cons (pv 3) (pa_cons (pe_gr (by rfl) T.gC) pa_nil))))
        (pw_and1 (pt_val (pe_callB (call_isiX (K := K) rfl) (by rfl) z.isinstance (by decide +kernel) (pa_cons (pe_msg T hz hf (pv 3)) (pa_cons (pe_ty rfl z.str PyProof.Rows.Boot.«str») pa_nil)))))))
        (pss_one (ps_ret (pe_tup (pa_cons pe_non (pa_cons (pe_msg T hz hf (pv 3)) pa_nil))))) pss_nil)))
    (pss_one (ps_ret (pe_tup (pa_cons pe_non (pa_cons pe_str pa_nil)))))), ?_⟩
  refine ⟨_, rfl, _, rfl, _, rfl, ev_call R ok lv I (fun d hd b u H1 s1 fr => ⟨by show 2 ≤ sizeLine; decide, fun p hp => q1 d hd b u p _ (s1.trans (same_new hp _)) upd_same (fr.same (same_new hp _))⟩) fun m hm dd H1 s1 hdd ha => ?_⟩
  refine ⟨true, T.te, fun _ aa haa => ?_, fun q => Bool.noConfusion q⟩
  refine if_pure (p := true && true) (PureT.and (fun Q q => ⟨_, rfl, C, dd, _, rfl, rfl, ha, rfl, _, rfl, q⟩) fun _ Q q => ⟨_, rfl, rfl, rfl, dd, _, rfl, ha, _, _, _, _, true, rfl, .ty _, .base (.str _), kit_ty (by decide +kernel), _, rfl, q⟩) (fun _ => ?_) (fun h => by cases h)
  exact ⟨_, rfl, rfl, rfl, dd, _, rfl, ha, by show 2 ≤ sizeLine; decide, fun p hp => q2 m hm p _ (s1.trans (same_new hp _)) upd_same⟩
end
end Vk
set_option maxHeartbeats 4000000
/-! the two answers side by side -/
namespace Vk
open PySem PySem.Spec PyProof.Rows L2
theorem lookK_nth : ∀ {ks : List Str} {ds : List Dat} {i : Nat} {k : Str} {d : Dat}, ks.Nodup → ks[i]? = some k → ds[i]? = some d → lookK ks ds k = some d
  | [], _, _, _, _, _, h, _ => by cases h
  | _ :: _, [], _, _, _, _, _, h => by cases h
  | a :: ks, e :: ds, 0, k, d, _, h, g => by
    cases h
    cases g
    exact if_pos rfl
  | a :: ks, e :: ds, i + 1, k, d, n, h, g => by
    have h' : ks[i]? = some k := h
    have ne : a ≠ k := fun z => (List.nodup_cons.mp n).1 (z ▸ List.mem_of_getElem? h')
    exact (if_neg ne).trans (lookK_nth (List.nodup_cons.mp n).2 h' g)
theorem sameF_of {ls : List Str} {b : List Dat} : ∀ {ks : List Str} {ds : List Dat}, (∀ (i : Nat) (k : Str) (d : Dat), ks[i]? = some k → ds[i]? = some d → ∃ v, lookK ls b k = some v ∧ sameD d v = true) → sameF ks ds ls b = true
  | [], _, _ => by cases ‹List Dat› <;> rfl
  | _ :: _, [], _ => rfl
  | k :: ks, d :: ds, h => by
    obtain ⟨v, e, s⟩ := h 0 k d rfl rfl
    have r := sameF_of (ks := ks) (ds := ds) fun i k d a c => h (i + 1) k d a c
    rw [sameF, e, r]
    show (sameD d v && true) = true
    rw [s]
    rfl
theorem sameL_of : ∀ {ds : List Dat}, (∀ d ∈ ds, sameD d d = true) → sameL ds ds = true
  | [], _ => rfl
  | d :: ds, h => by
    rw [sameL, h d List.mem_cons_self, sameL_of fun e he => h e (List.mem_cons_of_mem _ he)]
    rfl
/-- a value is the same as itself -/
theorem sameD_self : ∀ (n : Nat) (d : Dat), d.dep ≤ n → d.WD → sameD d d = true
  | 0, d, h, _ => absurd (dep_pos d) (by omega)
  | n + 1, d, h, wd => by
    have ih : ∀ e ∈ d.parts, sameD e e = true := fun e he => sameD_self n e (by have := dep_part he; omega) ((WDL.parts wd).mem he)
    cases d with
    | non => rfl
    | bl b => show (b == b) = true; simp
    | int i => show (i == i) = true; simp
    | str x => show decide (x = x) = true; simp
    | lst ds => exact sameL_of ih
    | rcd ks ds =>
      show ((ks.length == ks.length) && sameF ks ds ks ds) = true
      have e : sameF ks ds ks ds = true := sameF_of fun i k d a c => ⟨d, lookK_nth wd.1 a c, ih d (List.mem_of_getElem? c)⟩
      rw [e]
      simp
    | act o m ds =>
      show ((o == o) && (decide (m = m) && sameL ds ds)) = true
      have e : sameL ds ds = true := sameL_of ih
      rw [e]
      simp
section
variable {w : World} {K : PySem.W.Frag} {mg : Str → Option Value} {base : Heap} {n k : Nat} {C Vw fI cc cda : Addr}
def spRight : Sp := fun vs H Q _ => ∃ p q, vs = [.ref p, .ref q] ∧ ((∃ u v d, H p = some (.tup [u, .non]) ∧ H q = some (.tup [v, .non]) ∧ Rep H u d ∧ Rep H v d ∧ Bd d) ∨ ∃ m : Str, H p = some (.tup [.non, .str m]) ∧ H q = some (.tup [.non, .str m])) ∧ ∀ H', Same H H' → Q (.bl true) H'
abbrev s_L_right : Stmt := topS 89
theorem sc_L_right : FnScope ["_law_told", "_law_due"] ["_law_told", "_law_due"] (defScope s_L_right) := ⟨rfl, rfl, rfl, by decide +kernel, rfl, by decide +kernel, by decide +kernel⟩
theorem cal_L_right (D : DefA K mg "_law_right" s_L_right) (c__law_same : Cal PP w K mg base CX0 42 "_law_same" ["_law_first", "_law_second"] (spLSame 41)) : Cal PP w K mg base CX0 43 "_law_right" ["_law_told", "_law_due"] spRight := by
  refine cal_mk D sc_L_right (fun _ _ _ _ _ _ us hl => match us, hl with | [_, _], _ => rfl) (fun vs H Q E h => ?_) (fun f cdv A outer s H vs Q E hr h => ?_)
  · obtain ⟨p, q, rfl, _⟩ := h
    rfl
  obtain ⟨p, q, rfl, h, e⟩ := h
  refine ⟨_, (pss_cons (ps_if (pt_cmpR op_notN (pe_ix ix_tup (pv 1) pe_int (fun _ _ => rfl)) pe_non (nomark _)) (pss_one (ps_ret (pe_cmpR op_eq (pe_ix ix_tup (pv 0) pe_int (fun _ _ => rfl)) (pe_ix ix_tup (pv 1) pe_int (fun _ _ => rfl)) (nomark _)))) pss_nil)
    (pss_one (ps_ret (pe_and (pe_cmpR op_isN (pe_ix ix_tup (pv 0) pe_int (fun _ _ => rfl)) pe_non (nomark _)) (pe_one (pe_cal c__law_same hr (by rfl) (pa_cons (pe_ix ix_tup (pv 0) pe_int (fun _ _ => rfl)) (pa_cons (pe_ix ix_tup (pv 1) pe_int (fun _ _ => rfl)) pa_nil)))))))), ?_⟩
  rcases h with ⟨u, v, d, hp, hq, R1, R2, b⟩ | ⟨m, hp, hq⟩
  · refine if_pureN (p := false) (fun Q q => at_tup 1 rfl hq rfl ⟨rfl, _, rfl, q⟩) (fun h => by cases h) fun _ => ?_
    refine at_tup 1 rfl hp rfl ⟨rfl, true, rfl, (if_pos rfl).mpr (at_tup 0 rfl hp rfl (at_tup 0 rfl hq rfl ⟨u, v, d, d, rfl, R1, R2, b.wd, b.wd, ?_, fun H' s' => ?_⟩))⟩
    · have := msr_le d
      have := b.dep
      omega
    · rw [sameD_self 20 d b.dep b.wd]
      exact e H' s'
  · refine if_pureN (p := true) (fun Q q => at_tup 1 rfl hq rfl ⟨rfl, _, rfl, q⟩) (fun _ => ?_) fun h => by cases h
    refine at_tup 1 rfl hp rfl (at_tup 1 rfl hq rfl ⟨rfl, ?_⟩)
    rw [decide_eq_true (rfl : V.str m = V.str m)]
    exact e H (.refl H)
end
end Vk
set_option maxHeartbeats 4000000
/-! a value of one's own is spoilt: nothing else is -/
namespace Vk
open PySem PySem.Spec PyProof.Rows L2
/-- the addresses below the top -/
def tlF : Dat → List Addr → List Addr
  | .lst _, F => F.tail | .rcd _ _, F => F.tail | .act _ _ _, F => F.tail.tail | _, F => F
/-- all stays but at F -/
def But (F : List Addr) (H H' : Hp) : Prop := ∀ b o, b ∉ F → H b = some o → H' b = some o
theorem But.refl (F : List Addr) (H : Hp) : But F H H := fun _ _ _ e => e
theorem Same.but {H H' : Hp} (s : Same H H') (F : List Addr) : But F H H' := fun b o _ e => s b o e
theorem But.trans {F : List Addr} {H H1 H2 : Hp} (a : But F H H1) (b : But F H1 H2) : But F H H2 := fun c o n e => b c o n (a c o n e)
theorem But.wide {F G : List Addr} {H H1 : Hp} (a : But F H H1) (h : ∀ b ∈ F, b ∈ G) : But G H H1 := fun c o n e => a c o (fun m => n (h c m)) e
theorem Own.but {F G : List Addr} {H H' : Hp} {v : V} {d : Dat} (o : Own H v d G) (b : But F H H') (dj : ∀ a ∈ G, a ∉ F) : Own H' v d G := o.at fun a ha => by
  obtain ⟨u, e⟩ := o.there a ha
  rw [e]
  exact b a u (dj a ha) e
theorem tl_sub (d : Dat) (F : List Addr) : ∀ b ∈ tlF d F, b ∈ F := fun b h => by
  cases d <;> first | exact h | exact List.mem_of_mem_tail h | exact List.mem_of_mem_tail (List.mem_of_mem_tail h)
section
variable {t : TS} {D : Ends} {σ : L2.St} {H : Hp}
/-- the last if -/
theorem ifkN1 {i : Nat} {k : Kd} (kx : Kd) (hs : σ[i]? = some (some (.str k.s))) (a : k = kx → t D σ H) (b : k ≠ kx → D.nx σ H) : tIfS (tTest (tOp rEq (tVar i) (tC (.str kx.s)))) t tNext D σ H :=
  if_pure (p := decide (k = kx)) (fun Q q => ⟨_, hs, rfl, _, congrArg V.bl (kd_dec k kx), q⟩) (fun h => a (of_decide_eq_true h)) fun h => b (of_decide_eq_false h)
end
def spPartsO : Sp := fun vs H Q _ => ∃ v d F, vs = [v] ∧ Own H v d F ∧ F.Nodup ∧ d.WD ∧ ∀ p ws H', Same H H' → H' p = some (.lst ws) → Owns H' ws d.parts (tlF d F) → p ∉ tlF d F → Q (.ref p) H'
def spSpoil (n : Nat) : Sp := fun vs H Q _ => ∃ v d F, vs = [v] ∧ Own H v d F ∧ F.Nodup ∧ d.WD ∧ d.dep ≤ n ∧ ∀ H', But F H H' → Q .non H'
section
variable {w : World} {K : PySem.W.Frag} {mg : Str → Option Value} {base : Heap} {n k : Nat}
theorem cal_L_partsO (D : DefA K mg "_law_parts" s_L_parts) (z : Nm mg) (c__law_kind : Cal PP w K mg base CX0 1 "_law_kind" ["_law_value_here"] spKind) : Cal PP w K mg base CX0 2 "_law_parts" ["_law_value_here"] spPartsO := by
  refine cal_mk D sc_L_parts (fun _ _ _ _ _ _ us hl => match us, hl with | [_], _ => rfl) (fun vs H Q E h => ?_) (fun f cdv A outer s H vs Q E hr h => ?_)
  · obtain ⟨v, d, F, rfl, _⟩ := h
    rfl
  obtain ⟨v, d, F, rfl, O, nF, wd, q⟩ := h
  have R := O.rep
  have hu := hu_of hr
  refine ⟨_, (pss_cons (ps_set (i := 1) sc_L_parts.nd rfl (Or.inl rfl) (pe_cal c__law_kind hr (by rfl) (pa_cons (pv 0) pa_nil)))
    (pss_cons (ps_if (pt_cmpR op_eq (pv 1) pe_str (nomark _)) (pss_one (ps_ret (pv 0))) pss_nil)
    (pss_cons (ps_if (pt_cmpR op_eq (pv 1) pe_str (nomark _)) (pss_one (ps_ret (pe_lockR (pe_lc (own := [("_law_name", 2)]) (g := gName 2) (tt := tYes) rfl sc_L_parts.nd (pi_keys (pv 0)) (blkOk_by (N := ["_law_value_here", "_law_kind_here", "_law_name"]) (sc := defScope s_L_parts) (by decide +kernel)) (fun _ _ _ _ _ => pg_name (i := 2) sc_L_parts.nd rfl (Or.inl rfl)) (fun _ _ _ _ _ => pts_nil) (fun _ _ _ _ _ => (pe_dget hu (pv 0) (pv 2) (fun _ _ => rfl))))))) pss_nil)
    (pss_cons (ps_if (pt_cmpR op_eq (pv 1) pe_str (nomark _)) (pss_one (ps_ret (pe_ix ix_tup (pv 0) pe_int (fun _ _ => rfl)))) pss_nil)
    (pss_one (ps_ret (pe_lst pa_nil))))))), ?_⟩
  refine kset rfl R (ifkS .list rfl (fun e => ?_) fun n1 => ifkS .record rfl (fun e => ?_) fun n2 => ifkS .act rfl (fun e => ?_) fun n3 => ?_)
  · cases O with
    | lst h r => exact ⟨_, rfl, q _ _ _ (.refl H) h r (List.nodup_cons.mp nF).1⟩
    | _ => cases e
  · cases O with
    | @rcd a kvs ks ds F h hk r =>
      refine lockER_on (.inl h) fun o H1 un Q1 u hq => ⟨_, rfl, _, _, rfl, .inl ⟨kvs, u.at1, ?_⟩⟩
      have nd := keys_nodup hk wd.1
      have hlen := r.rep.length
      have ln : (kvs.map (·.2)).length = kvs.length := List.length_map _
      refine lc_pure walk_keys (kvs.map (·.2)) ln ?_ (fun H2 s => s _ _ u.at1) (fun j x H2 H' y Qk hj s2 hy e => ⟨hy.1, fun qk => ?_⟩) fun D hD => ?_
      · have w3 := wd.2.2.1
        have w2 := wd.2.1
        rw [keys_len hk]
        exact small1000 (by omega)
      · obtain ⟨k, v, hv, rfl⟩ := hy.2
        rw [List.getElem?_map, hv] at e
        cases e
        exact ⟨_, rfl, _, rfl, _, v, rfl, .inl ⟨kvs, k, .inr ⟨o, s2 _ _ u.at1⟩, rfl, (valV_at nd hv).symm⟩, qk⟩
      · have sD := u.un (same_new hD (.lst (kvs.map (·.2))))
        have dj : D ∉ F := fun m => by
          obtain ⟨o', e'⟩ := r.there D m
          have na : D ≠ a := fun z => (List.nodup_cons.mp nF).1 (z ▸ m)
          rw [u.off1 D na, e'] at hD
          cases hD
        refine hq _ _ ?_ (q D (kvs.map (·.2)) _ sD ?_ (r.same sD) dj)
        · rw [upd_ne (ne_of_none u.at1 hD)]
          exact u.at1
        · refine ((u.back (upd H1 D (.lst (kvs.map (·.2)))) ?_).2 D (fun e => (ne_of_none u.at1 hD) e.symm)).trans upd_same
          rw [upd_ne (ne_of_none u.at1 hD)]
          exact u.at1
    | _ => cases e
  · cases O with
    | act h h2 r => exact ⟨_, rfl, _, _, 3, _, rfl, rfl, .inl (.inl h), rfl, q _ _ _ (.refl H) h2 r (List.nodup_cons.mp (List.nodup_cons.mp nF).2).1⟩
    | _ => cases e
  · refine ⟨by decide, fun p hp => ?_⟩
    have ht : Owns H [] d.parts (tlF d F) ∧ tlF d F = [] := by
      cases O with
      | non => exact ⟨.nil, rfl⟩
      | bl b => exact ⟨.nil, rfl⟩
      | int i => exact ⟨.nil, rfl⟩
      | str x => exact ⟨.nil, rfl⟩
      | lst h r => exact absurd rfl n1
      | rcd h hk r => exact absurd rfl n2
      | act h h2 r => exact absurd rfl n3
    exact q p _ _ (same_new hp _) upd_same (ht.1.same (same_new hp _)) (by rw [ht.2]; exact fun m => nomatch m)
abbrev s_L_spoil : Stmt := topS 105
theorem sc_L_spoil : FnScope ["_law_value_here", "_law_kind_here", "_law_part"] ["_law_value_here"] (defScope s_L_spoil) := ⟨rfl, rfl, rfl, by decide +kernel, rfl, by decide +kernel, by decide +kernel⟩
theorem cal_L_spoil (D : DefA K mg "_law_spoil" s_L_spoil) (z : Nm mg) (hk : 2 ≤ k) (c__law_kind : Cal PP w K mg base CX0 1 "_law_kind" ["_law_value_here"] spKind) (c__law_parts : Cal PP w K mg base CX0 2 "_law_parts" ["_law_value_here"] spPartsO)
    (c__law_spoil : Cal PP w K mg base CX0 k "_law_spoil" ["_law_value_here"] (spSpoil n)) : Cal PP w K mg base CX0 (k + 1) "_law_spoil" ["_law_value_here"] (spSpoil (n + 1)) := by
  have c__law_kind := c__law_kind.mono (show 1 ≤ k by omega)
  have c__law_parts := c__law_parts.mono hk
  refine cal_mk D sc_L_spoil (fun _ _ _ _ _ _ us hl => match us, hl with | [_], _ => rfl) (fun vs H Q E h => ?_) (fun f cdv A outer s H vs Q E hr h => ?_)
  · obtain ⟨v, d, F, rfl, _⟩ := h
    rfl
  obtain ⟨v, d, F, rfl, O, nF, wd, dp, q⟩ := h
  have R := O.rep
  have hu := hu_of hr
  refine ⟨_, (pss_cons (ps_set (i := 1) sc_L_spoil.nd rfl (Or.inl rfl) (pe_cal c__law_kind hr (by rfl) (pa_cons (pv 0) pa_nil)))
    (pss_cons (ps_for (passes_of rfl) rfl (pi_list (pe_cal c__law_parts hr (by rfl) (pa_cons (pv 0) pa_nil))) (pg_name (i := 2) sc_L_spoil.nd rfl (Or.inl rfl)) (pss_one (ps_expr (pe_cal c__law_spoil hr (by rfl) (pa_cons (pv 2) pa_nil)))))
    (pss_cons (ps_if (pt_cmpR op_eq (pv 1) pe_str (nomark _)) (pss_one (ps_expr (pe_bm PySem.F.plainAttrs_list PySem.F.slot_list_append PySem.F.type_list_append mt_append (pv 0) (pa_cons pe_str pa_nil)))) pss_nil)
    (pss_cons (ps_if (pt_cmpR op_eq (pv 1) pe_str (nomark _)) (pss_one (ps_dput hu (pv 0) pe_str pe_bl rfl)) pss_nil)
    (pss_one (ps_if (pt_cmpR op_eq (pv 1) pe_str (nomark _)) (pss_one (ps_expr (pe_bm PySem.F.plainAttrs_list PySem.F.slot_list_append PySem.F.type_list_append mt_append (pe_ix ix_tup (pv 0) pe_int (fun _ _ => rfl)) (pa_cons pe_str pa_nil)))) pss_nil)))))), ?_⟩
  refine kset rfl R ?_
  refine ⟨_, rfl, v, d, F, rfl, O, nF, wd, fun p ws H1 s1 hp Rp np => ⟨p, rfl, ⟨ws, .inl (.inl hp)⟩, ?_⟩⟩
  have nT : (tlF d F).Nodup := by
    cases d <;> first | exact nF | exact nF.sublist (List.tail_sublist F) | exact nF.sublist ((List.tail_sublist _).trans (List.tail_sublist F))
  refine for_it (walk_list (xs := ws)) (Pv := fun j σ H' => (∃ x2, σ = [some v, some (.str d.kd.s), x2]) ∧ ∃ F1 F2, tlF d F = F1 ++ F2 ∧ Owns H1 (ws.drop j) (d.parts.drop j) F2 ∧ But F1 H1 H') ⟨⟨_, rfl⟩, [], _, rfl, Rp, .refl _ _⟩ (fun _ _ _ _ pv => ?_) (fun j x σ H2 H' hj pv y => ?_) fun σ H' pv => ?_
  · obtain ⟨_, F1, F2, e, _, b⟩ := pv
    exact .inl (.inl (b _ _ (fun m => np (by rw [e]; exact List.mem_append_left _ m)) hp))
  · obtain ⟨⟨x2, rfl⟩, F1, F2, e, Os, b⟩ := pv
    obtain ⟨rfl, hy⟩ := y
    have hl : j < ws.length := hj
    have e1 : ws.drop j = x :: ws.drop (j + 1) := by
      rw [List.drop_eq_getElem_cons hl]
      have := List.getElem?_eq_getElem hl
      rw [this] at hy
      cases hy
      rfl
    rw [e1] at Os
    generalize hd : d.parts.drop j = pd at Os
    cases Os with
    | @cons _ c _ ps G F3 o1 os =>
      have hc : c ∈ d.parts := List.mem_of_mem_drop (by rw [hd]; exact List.mem_cons_self)
      have e2 : d.parts.drop (j + 1) = ps := by
        have : (d.parts.drop j).tail = ps := by rw [hd]; rfl
        rw [← this, List.tail_drop]
      rw [e] at nT
      have n1 := List.nodup_append.mp nT
      have n2 := List.nodup_append.mp n1.2.1
      refine ⟨_, rfl, x, c, G, rfl, o1.but b fun a ha m => n1.2.2 a m a (List.mem_append_left _ ha) rfl, n2.1, (WDL.parts wd).mem hc, by have := dep_part hc; omega, fun H3 b3 => ?_⟩
      refine ⟨⟨_, rfl⟩, F1 ++ G, F3, by rw [e, List.append_assoc], by rw [e2]; exact os, (b.wide fun a m => List.mem_append_left _ m).trans (b3.wide fun a m => List.mem_append_right _ m)⟩
  · obtain ⟨⟨x2, rfl⟩, F1, F2, e, _, b⟩ := pv
    have b1 : But (tlF d F) H H' := (Same.but s1 _).trans (b.wide fun a m => by rw [e]; exact List.mem_append_left _ m)
    have fin : ∀ (a : Addr) (o : HO), a ∈ F → But F H (upd H' a o) := fun a o ha b u nb e => by
      rw [upd_ne (fun z : b = a => nb (by rw [z]; exact ha))]
      exact b1 b u (fun m => nb (tl_sub d F b m)) e
    cases O with
    | @lst a vs ds F0 h r =>
      have ln := r.rep.length
      have lw := wd.1
      have hv : H' a = some (.lst vs) := b1 a _ (List.nodup_cons.mp nF).1 h
      refine ifkN .list rfl (fun _ => ⟨_, rfl, .inl ⟨rfl, vs, .inl (.inl hv)⟩, a, vs, _, rfl, rfl, hv, Nat.lt_of_le_of_lt (show vs.length ≤ 5000 by omega) (by decide), ?_⟩) fun n => absurd rfl n
      exact ifkN .record rfl (fun e => by cases e) fun _ => ifkN1 .act rfl (fun e => by cases e) fun _ => q _ (fin a _ List.mem_cons_self)
    | @rcd a kvs ks ds F0 h hk r =>
      have lk := keys_len hk
      have lw := wd.2.2.1
      have hv : H' a = some (.dK kvs) := b1 a _ (List.nodup_cons.mp nF).1 h
      refine ifkN .list rfl (fun e => by cases e) fun _ => ifkN .record rfl (fun _ => ⟨_, rfl, a, _, rfl, .inl ⟨kvs, .inr "changed", hv, rfl, small1000 (by omega), rfl⟩, ?_⟩) fun n => absurd rfl n
      exact ifkN1 .act rfl (fun e => by cases e) fun _ => q _ (fin a _ List.mem_cons_self)
    | @act a bb o nm vs ds F0 h h2 r =>
      have ln := r.rep.length
      have lw := wd.2.2.1
      have nd := List.nodup_cons.mp nF
      have nd2 := List.nodup_cons.mp nd.2
      have hv : H' a = some (.tup [.str "act", .int o, .str nm, .ref bb]) := b1 a _ (fun m => nd.1 (List.mem_cons_of_mem _ m)) h
      have hw : H' bb = some (.lst vs) := b1 bb _ nd2.1 h2
      refine ifkN .list rfl (fun e => by cases e) fun _ => ifkN .record rfl (fun e => by cases e) fun _ => ifkN1 .act rfl (fun _ => at_tup 3 rfl hv rfl ⟨.inl ⟨rfl, vs, .inl (.inl hw)⟩, bb, vs, _, rfl, rfl, hw, Nat.lt_of_le_of_lt (show vs.length ≤ 5000 by omega) (by decide), ?_⟩) fun n => absurd rfl n
      exact q _ (fin bb _ (List.mem_cons_of_mem _ List.mem_cons_self))
    | non => exact ifkN .list rfl (fun e => by cases e) fun _ => ifkN .record rfl (fun e => by cases e) fun _ => ifkN1 .act rfl (fun e => by cases e) fun _ => q _ b1
    | bl b => exact ifkN .list rfl (fun e => by cases e) fun _ => ifkN .record rfl (fun e => by cases e) fun _ => ifkN1 .act rfl (fun e => by cases e) fun _ => q _ b1
    | int i => exact ifkN .list rfl (fun e => by cases e) fun _ => ifkN .record rfl (fun e => by cases e) fun _ => ifkN1 .act rfl (fun e => by cases e) fun _ => q _ b1
    | str x => exact ifkN .list rfl (fun e => by cases e) fun _ => ifkN .record rfl (fun e => by cases e) fun _ => ifkN1 .act rfl (fun e => by cases e) fun _ => q _ b1
theorem cal_L_spoil_n (D : DefA K mg "_law_spoil" s_L_spoil) (z : Nm mg) (c1 : Cal PP w K mg base CX0 1 "_law_kind" ["_law_value_here"] spKind) (c2 : Cal PP w K mg base CX0 2 "_law_parts" ["_law_value_here"] spPartsO) : ∀ n : Nat, Cal PP w K mg base CX0 (n + 2) "_law_spoil" ["_law_value_here"] (spSpoil n)
  | 0 => (Cal.never D (fun f fd F => F.bindsN fun _ _ _ _ _ _ us hl => match us, hl with | [_], _ => rfl) fun vs H Q E ⟨v, d, F, _, _, _, _, h, _⟩ => absurd (dep_pos d) (by omega)).mono (Nat.zero_le _)
  | n + 1 => cal_L_spoil D z (by omega) c1 c2 (cal_L_spoil_n D z c1 c2 n)
end
end Vk
set_option maxHeartbeats 4000000
/-! the text that repr tells of a value -/
namespace Vk
open PySem PySem.Spec PyProof.Rows L2
mutual
def Dat.py : Dat → PyData
  | .non => .none | .bl b => .bool b | .int i => .int i | .str x => .str x | .lst ds => .list (pyL ds) | .rcd ks ds => .dict (pyK ks ds) | .act o n ds => .tuple [.str "act", .int o, .str n, .list (pyL ds)]
def pyL : List Dat → List PyData
  | [] => [] | d :: r => d.py :: pyL r
def pyK : List Str → List Dat → List (PyData × PyData)
  | k :: ks, d :: r => (.str k, d.py) :: pyK ks r
  | _, _ => []
end
theorem pyK_nil (ds : List Dat) : pyK [] ds = [] := by cases ds <;> simp [pyK]
theorem pyK_nil' (ks : List Str) : pyK ks [] = [] := by cases ks <;> simp [pyK]
theorem pyK_snd : ∀ {ks : List Str} {ds : List Dat}, ks.length = ds.length → (pyK ks ds).map (·.2) = pyL ds
  | [], [], _ => by rw [pyK_nil, pyL]; rfl
  | _ :: _, _ :: _, h => by rw [pyK, pyL, List.map_cons, pyK_snd (Nat.succ.inj h)]
  | [], _ :: _, h => by cases h
  | _ :: _, [], h => by cases h
theorem pyK_fst : ∀ {ks : List Str} {ds : List Dat}, ks.length = ds.length → (pyK ks ds).map (·.1) = ks.map PyData.str
  | [], [], _ => by rw [pyK_nil]; rfl
  | _ :: _, _ :: _, h => by rw [pyK, List.map_cons, List.map_cons, pyK_fst (Nat.succ.inj h)]
  | [], _ :: _, h => by cases h
  | _ :: _, [], h => by cases h
/-! ### it may be shown -/
mutual
theorem py_show : ∀ {d : Dat}, d.WD → d.py.showable = true
  | .non, _ => by rw [Dat.py]; rfl
  | .bl _, _ => by rw [Dat.py]; rfl
  | .int _, h => by rw [Dat.py]; exact decide_eq_true (small_log h)
  | .str _, _ => by rw [Dat.py]; rfl
  | .lst _, h => by rw [Dat.py]; exact pyL_show h.2
  | .rcd _ _, h => by rw [Dat.py]; exact pyK_show h.2.2.2.2
  | .act o n ds, h => by
    rw [Dat.py]
    have e : (PyData.showableAll (pyL ds)) = true := pyL_show h.2.2.2
    have e2 : decide (o.natAbs.log2 < 1920) = true := decide_eq_true (small_log h.1)
    show (true && (decide (o.natAbs.log2 < 1920) && (true && (PyData.showableAll (pyL ds) && true)))) = true
    rw [e, e2]
    rfl
theorem pyL_show : ∀ {ds : List Dat}, WDL ds → PyData.showableAll (pyL ds) = true
  | [], _ => by rw [pyL]; rfl
  | d :: r, h => by
    rw [pyL, PyData.showableAll, py_show h.1, pyL_show h.2]
    rfl
theorem pyK_show : ∀ {ks : List Str} {ds : List Dat}, WDL ds → PyData.showableKv (pyK ks ds) = true
  | [], _, _ => by rw [pyK_nil]; rfl
  | _ :: _, [], _ => by rw [pyK_nil']; rfl
  | k :: ks, d :: r, h => by
    rw [pyK, PyData.showableKv, py_show h.1, pyK_show h.2]
    rfl
end
/-! ### its depth -/
mutual
theorem py_dep : ∀ (d : Dat), d.py.depth ≤ 2 * d.dep
  | .non => by rw [Dat.py]; exact Nat.zero_le _
  | .bl _ => by rw [Dat.py]; exact Nat.zero_le _
  | .int _ => by rw [Dat.py]; exact Nat.zero_le _
  | .str _ => by rw [Dat.py]; exact Nat.zero_le _
  | .lst ds => by
    rw [Dat.py, Dat.dep]
    have := pyL_dep ds
    show PyData.depthAll (pyL ds) + 1 ≤ _
    omega
  | .rcd ks ds => by
    rw [Dat.py, Dat.dep]
    have := pyK_dep ks ds
    show PyData.depthKv (pyK ks ds) + 1 ≤ _
    omega
  | .act o n ds => by
    rw [Dat.py, Dat.dep]
    have := pyL_dep ds
    show max 0 (max 0 (max 0 (max (PyData.depthAll (pyL ds) + 1) 0))) + 1 ≤ _
    omega
theorem pyL_dep : ∀ (ds : List Dat), PyData.depthAll (pyL ds) ≤ 2 * depL ds
  | [] => by rw [pyL]; exact Nat.zero_le _
  | d :: r => by
    rw [pyL, depL]
    have h1 := py_dep d
    have h2 := pyL_dep r
    show max d.py.depth (PyData.depthAll (pyL r)) ≤ _
    omega
theorem pyK_dep : ∀ (ks : List Str) (ds : List Dat), PyData.depthKv (pyK ks ds) ≤ 2 * depL ds
  | [], _ => by rw [pyK_nil]; exact Nat.zero_le _
  | _ :: _, [] => by rw [pyK_nil']; exact Nat.zero_le _
  | k :: ks, d :: r => by
    rw [pyK, depL]
    have h1 := py_dep d
    have h2 := pyK_dep ks r
    show max (max 0 d.py.depth) (PyData.depthKv (pyK ks r)) ≤ _
    omega
end
/-! ### its length -/
theorem low_repr {x : Str} (h : (x.cps.all fun c => decide (c < 0x110000)) = true) : (reprText x).length ≤ 10 * x.length + 2 :=
  StrLaws.reprText_len x fun c hc => by
    have h2 := Array.all_eq_true_iff_forall_mem.mp h c (Array.mem_toList_iff.mp hc)
    have : c < 0x110000 := of_decide_eq_true h2
    have e : (16 : Nat) ^ 8 = 4294967296 := by decide
    omega
theorem Low.wide {x : Str} (h : Low x) : (x.cps.all fun c => decide (c < 0x110000)) = true :=
  Array.all_eq_true_iff_forall_mem.mpr fun c hc => by
    have : c < 128 := of_decide_eq_true (Array.all_eq_true_iff_forall_mem.mp h c hc)
    exact decide_eq_true (by omega)
theorem int_show {i : Int} (h : -big30 ≤ i ∧ i ≤ big30) : (PyData.shown (.int i)).length ≤ 32 := by
  have e : (10 : Nat) ^ 31 = 10000000000000000000000000000000 := by decide
  have hb : big30 = 1000000000000000000000000000000 := rfl
  rw [hb] at h
  have := PySem.int_text_length_le10 (a := i) (k := 31) (by decide) (by omega)
  show (Str.ofString (toString i)).length ≤ 32
  rw [PySem.ofString_length]
  exact this
mutual
theorem py_len : ∀ {d : Dat}, d.WD → d.Sg → d.py.shown.length + 8 ≤ 64 * d.sz
  | .non, _, _ => by rw [Dat.py, Dat.sz]; decide
  | .bl b, _, _ => by rw [Dat.py, Dat.sz]; cases b <;> decide
  | .int i, h, _ => by
    rw [Dat.py, Dat.sz]
    have := int_show h
    omega
  | .str x, _, g => by
    rw [Dat.py, Dat.sz]
    have : (PyData.shown (.str x)).length ≤ 10 * x.length + 2 := low_repr (Low.wide g)
    omega
  | .lst ds, h, g => by
    rw [Dat.py, Dat.sz]
    have h1 := pyL_len h.2 g
    have h2 : (PyData.shown (.list (pyL ds))).length ≤ _ := listText_len_le (PyData.shownAll (pyL ds))
    omega
  | .rcd ks ds, h, g => by
    rw [Dat.py, Dat.sz]
    have h1 := pyK_len (ks := ks) h.2.2.2.1 h.2.2.2.2 g
    have h2 : (PyData.shown (.dict (pyK ks ds))).length ≤ _ := dictText_len_le (PyData.shownKv (pyK ks ds))
    omega
  | .act o n ds, h, g => by
    rw [Dat.py, Dat.sz]
    have h1 := pyL_len h.2.2.2 g.2
    have h2 : (PyData.shown (.list (pyL ds))).length ≤ _ := listText_len_le (PyData.shownAll (pyL ds))
    have h3 := int_show h.1
    have h4 : (PyData.shown (.str n)).length ≤ 10 * n.length + 2 := low_repr (Low.wide g.1)
    have h5 : (PyData.shown (.str "act")).length = 5 := by decide +kernel
    have h7 := tupleText_len_le (PyData.shownAll [.str "act", .int o, .str n, .list (pyL ds)])
    have h8 : ((PyData.shownAll [.str "act", .int o, .str n, .list (pyL ds)]).map (·.length)).sum = (PyData.shown (.str "act")).length + ((PyData.shown (.int o)).length + ((PyData.shown (.str n)).length + ((PyData.shown (.list (pyL ds))).length + 0))) := rfl
    have h9 : (PyData.shownAll [.str "act", .int o, .str n, .list (pyL ds)]).length = 4 := rfl
    rw [h8, h9] at h7
    show (tupleText _).length + 8 ≤ _
    omega
theorem pyL_len : ∀ {ds : List Dat}, WDL ds → SgL ds → ((PyData.shownAll (pyL ds)).map (·.length)).sum + 8 * (PyData.shownAll (pyL ds)).length ≤ 64 * szL ds
  | [], _, _ => by rw [pyL]; exact Nat.zero_le _
  | d :: r, h, g => by
    have h1 := py_len h.1 g.1
    have h2 := pyL_len h.2 g.2
    rw [pyL, szL, PyData.shownAll, List.map_cons, List.sum_cons, List.length_cons]
    omega
theorem pyK_len : ∀ {ks : List Str} {ds : List Dat}, (∀ k ∈ ks, KeyOk k) → WDL ds → SgL ds → ((PyData.shownKv (pyK ks ds)).map (·.length)).sum + 4 * (PyData.shownKv (pyK ks ds)).length ≤ 64 * szL ds + 10 * lens ks
  | [], _, _, _, _ => by rw [pyK_nil]; exact Nat.zero_le _
  | _ :: _, [], _, _, _ => by rw [pyK_nil']; exact Nat.zero_le _
  | k :: ks, d :: r, hk, h, g => by
    have h1 := py_len h.1 g.1
    have h2 := pyK_len (ks := ks) (fun z hz => hk z (List.mem_cons_of_mem _ hz)) h.2 g.2
    have h3 : (PyData.shown (.str k)).length ≤ 10 * k.length + 2 := low_repr (hk k List.mem_cons_self).2
    have h4 : lens (k :: ks) = k.length + lens ks := by
      unfold lens
      rw [List.map_cons, List.sum_cons]
    have h5 : (PyData.shown (.str k) ++ ": " ++ d.py.shown : Str).length = (PyData.shown (.str k)).length + 2 + d.py.shown.length := by
      rw [strLen_append, strLen_append]
      rfl
    rw [pyK, szL, h4, PyData.shownKv, List.map_cons, List.sum_cons, List.length_cons, h5]
    omega
end
/-! ### the heap reads so -/
def SysD (h : Heap) : Prop := ∃ o, h.get? sysModules = some o ∧ o.cls ≠ .type "list"
section
variable {P : Program} {w : World} {H : Hp} {h : Heap}
theorem rd_ok {a : Addr} {u : HO} (ok : HOk P w H h) (r : Rd H a u) : ObjOk P w H h a u := by
  rcases r with r | ⟨o, r⟩
  · exact ok a _ r
  · exact (ok a _ r).2
theorem keys_read : ∀ {es : List DictEntry} {vs : List (Key × Value)} {ks : List Str}, Pairs (mixKind P w) es vs → vs.map (·.1) = ks.map Sum.inr → ReadsAll h (es.map (·.key)) (ks.map PyData.str) [] ∧ es.map (·.val) = vs.map (·.2)
  | [], _, [], .nil, _ => ⟨.nil, rfl⟩
  | _ :: _, _, k :: ks, .cons (e := e) (kv := kv) a b r, q => by
    rw [List.map_cons, List.map_cons] at q
    obtain ⟨q1, q2⟩ := List.cons.inj q
    obtain ⟨i1, i2⟩ := keys_read r q2
    rw [q1] at a
    have a' : keyIs (Sum.inr k) e.key = true := a
    rcases keyIs_shape a' with ⟨i, t, e1, _⟩ | ⟨x, t, e1, e2⟩
    · cases e1
    · cases e1
      refine ⟨?_, by rw [List.map_cons, List.map_cons, i2, b]⟩
      rw [List.map_cons, List.map_cons, e2]
      exact .cons (as := []) (.str k t) i1
  | [], _, _ :: _, .nil, q => by cases q
  | _ :: _, _, [], .cons _ _ _, q => by cases q
theorem kv_vals : ∀ {kvs : List (Key × V)} {vs : List (Key × Value)}, KV kvs vs → Vals (kvs.map (·.2)) (vs.map (·.2)) ∧ vs.map (·.1) = kvs.map (·.1)
  | [], _, .nil => ⟨.nil, rfl⟩
  | _ :: _, _, .cons a r => by
    obtain ⟨i1, i2⟩ := kv_vals r
    exact ⟨.cons a.2 i1, by rw [List.map_cons, List.map_cons, i2, a.1]⟩
mutual
theorem rep_reads (ok : HOk P w H h) (hs : SysD h) : ∀ {v : V} {d : Dat} {u : Value}, Rep H v d → RelV v u → ∃ as, Reads h u d.py as ∧ sysModules ∉ as
  | _, _, _, .non, r => by
    cases r
    rw [Dat.py]
    exact ⟨_, .none, nofun⟩
  | _, _, _, .bl b, r => by
    cases r
    rw [Dat.py]
    exact ⟨_, .bool b, nofun⟩
  | _, _, _, .int i, r => by
    obtain ⟨t, rfl⟩ := r
    rw [Dat.py]
    exact ⟨_, .int i t, nofun⟩
  | _, _, _, .str x, r => by
    obtain ⟨t, rfl⟩ := r
    rw [Dat.py]
    exact ⟨_, .str x t, nofun⟩
  | _, _, _, .lst (a := a) ha rs, r => by
    cases r
    obtain ⟨_, its, n, rv, ho⟩ := ok a _ ha
    obtain ⟨as, q, ns⟩ := reps_reads ok hs rs rv
    rw [Dat.py]
    refine ⟨_, .list ho rfl rfl q, fun m => ?_⟩
    rcases List.mem_cons.mp m with e | m
    · obtain ⟨o, h1, h2⟩ := hs
      rw [e, ho] at h1
      cases h1
      exact h2 rfl
    · exact ns m
  | _, _, _, .rcd (a := a) (ks := ks) (ds := ds) ha hk rs, r => by
    cases r
    obtain ⟨_, nsys, vs, kv, o, es, ep, ho, ex, hd, _, ps, _⟩ := rd_ok ok ha
    obtain ⟨rv, kf⟩ := kv_vals kv
    obtain ⟨k1, k2⟩ := keys_read (h := h) ps (kf.trans hk)
    obtain ⟨as, q, ns⟩ := reps_reads ok hs rs rv
    have ln : ks.length = ds.length := by
      have h1 := rs.length
      have h2 := keys_len hk
      rw [List.length_map] at h1
      omega
    rw [Dat.py]
    refine ⟨_, .dict ho ex.1 hd (by rw [pyK_fst ln]; exact k1) (by rw [pyK_snd ln, k2]; exact q), fun m => ?_⟩
    rcases List.mem_cons.mp m with e | m
    · rw [← e] at nsys
      simp at nsys
    · exact ns m
  | _, _, _, .act (a := a) (b := b) (o := o) (n := n) ha hb rs, r => by
    cases r
    obtain ⟨_, its, rv, oo, h1, h2, m, h3⟩ := ok a _ ha
    cases rv with
    | cons r1 rv => cases rv with
      | cons r2 rv => cases rv with
        | cons r3 rv => cases rv with
          | cons r4 rv =>
            cases rv
            obtain ⟨t1, rfl⟩ := r1
            obtain ⟨t2, rfl⟩ := r2
            obtain ⟨t3, rfl⟩ := r3
            cases r4
            obtain ⟨_, its2, n2, rv2, ho2⟩ := ok b _ hb
            obtain ⟨as, q, ns⟩ := reps_reads ok hs rs rv2
            rw [Dat.py]
            refine ⟨_, .tuple h1 h2 h3 (.cons (.str _ _) (.cons (.int _ _) (.cons (.str _ _) (.cons (.list ho2 rfl rfl q) .nil)))), fun mm => ?_⟩
            have mm' : sysModules ∈ b :: as := by simpa using mm
            rcases List.mem_cons.mp mm' with e | m
            · obtain ⟨o, h1, h2⟩ := hs
              rw [e, ho2] at h1
              cases h1
              exact h2 rfl
            · exact ns m
theorem reps_reads (ok : HOk P w H h) (hs : SysD h) : ∀ {vs : List V} {ds : List Dat} {us : List Value}, Reps H vs ds → Vals vs us → ∃ as, ReadsAll h us (pyL ds) as ∧ sysModules ∉ as
  | _, _, _, .nil, r => by
    cases r
    rw [pyL]
    exact ⟨_, .nil, nofun⟩
  | _, _, _, .cons a rs, r => by
    cases r with
    | cons r1 r2 =>
      obtain ⟨as, q1, n1⟩ := rep_reads ok hs a r1
      obtain ⟨bs, q2, n2⟩ := reps_reads ok hs rs r2
      rw [pyL]
      exact ⟨_, .cons q1 q2, fun m => (List.mem_append.mp m).elim n1 n2⟩
end
end
/-- repr(v), v an object, no repr under way -/
theorem call_reprD {X : Cx} (hg : X.A.guards = some []) (hu : X.A.units + 64 < cLine) (hk : ∃ o, X.K.lookup sysModules = some o ∧ o.cls ≠ .type "list") :
    CallR X (.builtin "repr") (fun xs H Q => ∃ a d, xs = [V.ref a] ∧ Rep H (.ref a) d ∧ d.WD ∧ d.Sg ∧ d.dep ≤ 30 ∧ d.sz ≤ 100000 ∧ Q (.str d.py.shown) H) := by
  intro pins s σ H xs us Q I r h
  obtain ⟨a, d, rfl, R, wd, sg, dp, sz, q⟩ := h
  obtain ⟨u, rfl, r1⟩ := vals1 r
  obtain ⟨o, ho, hc⟩ := hk
  obtain ⟨as, rd, ns⟩ := rep_reads I.hok ⟨o, I.kIn _ _ ho, hc⟩ R r1
  obtain rfl : u = Value.ref a := r1
  have dd := py_dep d
  have ll := py_len wd sg
  exact repr_of_reads' rd (py_show wd) (fun _ => ns) hg (by omega) (fun _ _ e => e) (fun h' u tk k => ⟨.str d.py.shown, H, I.kept k, ⟨u, rfl⟩, q⟩) (Nat.le_trans (show d.py.shown.length ≤ 6400000 by omega) (by decide))
end Vk
set_option maxHeartbeats 4000000
/-! the law -/
namespace Vk
open PySem PySem.Spec PyProof.Rows L2
/-- what is kept of an answer -/
def Told (H0 : Hp) (r : Rs) (p : Addr) (H : Hp) : Prop := (∃ d u, r = .ok d ∧ H p = some (.tup [u, .non]) ∧ Fresh H0 H u d ∧ Bd d) ∨ ∃ m : Str, r = .error m ∧ H p = some (.tup [.non, .str m])
theorem Told.same {H0 H H' : Hp} {r : Rs} {p : Addr} (t : Told H0 r p H) (s : Same H H') : Told H0 r p H' := by
  rcases t with ⟨d, u, e, hp, f, b⟩ | ⟨m, e, hp⟩
  · exact .inl ⟨d, u, e, s _ _ hp, f.same s, b⟩
  · exact .inr ⟨m, e, s _ _ hp⟩
section
variable {σ : L2.St} {H0 H : Hp} {v : V} {a p : Addr} {o : Int} {x : Ex} {ks : List Str} {ds : List Dat} {n : Nat} {Q : VK}
theorem told_call (h7 : σ[7]? = some (some v)) (h2 : σ[2]? = some (some (.ref a))) (h8 : σ[8]? = some (some (.int o))) (R : ERep H0 v x) (ok : x.ok ks) (lv : x.lvl ≤ n) (I : EvIn H0 a ks ds o n) (s0 : Same H0 H)
    (q : ∀ p H', Same H H' → Told H0 (ev o x ks ds) p H' → Q (.ref p) H') : tCal (spEvd n) E0 (tCons (tVar 7) (tCons (tVar 2) (tCons (tVar 8) tNil))) σ H Q :=
  ⟨_, h7, _, h2, _, h8, v, a, o, x, ks, ds, rfl, R.mono (rds_of s0), ok, lv, I.mono (rds_of s0), fun d e b u p H' s hp f => q p H' s (.inl ⟨d, u, e, hp, f.older s0, b⟩), fun m e p H' s hp => q p H' s (.inr ⟨m, e, hp⟩)⟩
theorem due_call (h7 : σ[7]? = some (some v)) (h2 : σ[2]? = some (some (.ref a))) (h8 : σ[8]? = some (some (.int o))) (h9 : σ[9]? = some (some (.ref p))) (R : ERep H0 v x) (ok : x.ok ks) (lv : x.lvl ≤ n) (I : EvIn H0 a ks ds o n) (s0 : Same H0 H) (T : Told H0 (ev o x ks ds) p H)
    (q : ∀ H', Same H H' → Q (.bl true) H') : tCal spRight E0 (tCons (tVar 9) (tCons (tCal (spLEv n) E0 (tCons (tVar 7) (tCons (tVar 2) (tCons (tVar 8) tNil)))) tNil)) σ H Q := by
  refine ⟨_, h9, _, h7, _, h2, _, h8, lev_call (E := E0) s0 R ok lv I (fun d e b u t G' H1 g ht r => ?_) fun m e t H1 s1 ht => ?_⟩
  · rcases T with ⟨d', u', e', hp, f, b'⟩ | ⟨m, e', hp⟩
    · rw [e] at e'
      cases e'
      exact ⟨p, t, rfl, .inl ⟨u', u, d, g.s _ _ hp, ht, f.rep.mono (rds_of g.s), r.mono (rds_of g.i), b⟩, fun H' s => q H' (g.s.trans s)⟩
    · rw [e] at e'
      cases e'
  · rcases T with ⟨d', u', e', hp, f, b'⟩ | ⟨m', e', hp⟩
    · rw [e] at e'
      cases e'
    · rw [e] at e'
      cases e'
      exact ⟨p, t, rfl, .inr ⟨m, s1 _ _ hp, ht⟩, fun H' s => q H' (s1.trans s)⟩
end
theorem same_ch {H0 H H' : Hp} {S : Addr} (s : Same H0 H) (hS : H0 S = none) (c : Ch S H H') : Same H0 H' := fun b o e => c.off b o (fun z => by rw [z, hS] at e; cases e) (s b o e)
theorem Told.own {H0 H : Hp} {r : Rs} {p : Addr} (t : Told H0 r p H) : ∃ (u y : V) (d : Dat) (F : List Addr), H p = some (.tup [u, y]) ∧ Own H u d F ∧ F.Nodup ∧ d.WD ∧ d.dep ≤ 20 ∧ ∀ a ∈ F, H0 a = none := by
  rcases t with ⟨d, u, e, hp, ⟨F, o, n, z⟩, b⟩ | ⟨m, e, hp⟩
  · exact ⟨u, _, d, F, hp, o, n, b.wd, b.dep, z⟩
  · exact ⟨_, _, .non, [], hp, .non, List.nodup_nil, trivial, by rw [Dat.dep]; decide, fun _ h => nomatch h⟩
theorem bd_all : ∀ {ds : List Dat}, (∀ d ∈ ds, Bd d) → WDL ds ∧ depL ds ≤ 20 ∧ szL ds ≤ 2001 * ds.length
  | [], _ => ⟨trivial, Nat.zero_le _, Nat.zero_le _⟩
  | d :: r, h => by
    have b := h d List.mem_cons_self
    obtain ⟨i1, i2, i3⟩ := bd_all fun e he => h e (List.mem_cons_of_mem _ he)
    have h1 := b.dep
    have h2 := b.sz
    refine ⟨⟨b.wd, i1⟩, Nat.max_le.mpr ⟨h1, i2⟩, ?_⟩
    rw [szL, List.length_cons]
    omega
theorem env_dat {ds : List Dat} (e : EnvOk ks0 ds) (g : ∀ d ∈ ds, d.Sg) : (Dat.rcd ks0 ds).WD ∧ (Dat.rcd ks0 ds).Sg ∧ (Dat.rcd ks0 ds).dep ≤ 30 ∧ (Dat.rcd ks0 ds).sz ≤ 100000 := by
  obtain ⟨b1, b2, b3⟩ := bd_all e.bd
  have l8 : ds.length = 8 := e.len.symm
  have hk : ∀ k ∈ ks0, k.length ≤ 5000 ∧ (k.cps.all fun c => decide (c < 0x110000)) = true := by decide +kernel
  refine ⟨⟨e.nd, e.len, by decide, fun k h => hk k h, b1⟩, SgL.of g, ?_, ?_⟩
  · rw [Dat.dep]; omega
  · have : lens ks0 = 8 := by decide +kernel
    rw [Dat.sz, this]
    omega
theorem nw_sub (H H' : Hp) : Same (nw H H') H' := fun b o e => (nw_some e).2
theorem exp_callZ {H : Hp} {Q : VK} {E : XK} {S B : Addr} {l n : Nat} {bs : List Str} {wn y : Int} (ey : y = (l : Nat)) (hl : l + 1 ≤ n) (st : St S H) (nBS : B ≠ S) (hB : H B = some (.lst (bs.map V.str))) (lb : bs.length + l ≤ 100) (hb : ∀ y ∈ bs, y.length ≤ 100) (w0 : 0 ≤ wn) (w5 : wn ≤ 5)
    (q : ∀ v H', Ch S H H' → GoodE bs (l + 2) (nw H H') v → Q v H') : spExp n [.ref S, .int y, .int wn, .ref B] H Q E := by
  subst ey
  exact exp_call hl st nBS hB lb hb w0 w5 q
def spLaw (K : PySem.W.Frag) : Sp := fun vs H Q _ => ∃ B, ∃ ns : List Int, vs = [.ref B] ∧ SqL K H B (ns.map V.int) ∧ ∀ H', Q (.bl true) H'
theorem sqL_later {K : PySem.W.Frag} {H H' : Hp} {a : Addr} {xs : List V} (h : SqL K H a xs) (s : Same H H') : SqL K H' a xs := by
  rcases h with (h | ⟨o, h⟩) | h
  · exact .inl (.inl (s _ _ h))
  · exact .inl (.inr ⟨o, s _ _ h⟩)
  · exact .inr h
section
variable {w : World} {K : PySem.W.Frag} {mg : Str → Option Value} {base : Heap} {n k : Nat}
abbrev lawNs : List Str := ["_law_script", "_law_k", "_law_environment_here", "_law_kept", "_law_j", "_law_state", "_law_want", "_law_expression_here", "_law_owner", "_law_told"]
abbrev s_law : Stmt := topS 106
theorem sc_law : FnScope ["_law_script", "_law_k", "_law_environment_here", "_law_kept", "_law_j", "_law_state", "_law_want", "_law_expression_here", "_law_owner", "_law_told"] ["_law_script"] (defScope s_law) := ⟨rfl, rfl, rfl, by decide +kernel, rfl, by decide +kernel, by decide +kernel⟩
theorem law_body (z : Nm mg) (hS : ∃ o, K.lookup sysModules = some o ∧ o.cls ≠ .type "list")
    (c__law_cell : Cal PP w K mg base CX0 75 "_law_cell" ["_law_script", "_law_k"] (spCel K)) (c__law_start : Cal PP w K mg base CX0 75 "_law_start" ["_law_cell_here", "_law_k"] spStart) (c__law_digit : Cal PP w K mg base CX0 75 "_law_digit" ["_law_state", "_law_many_here"] spDigit)
    (c__law_environment : Cal PP w K mg base CX0 75 "_law_environment" ["_law_state"] spEnv) (c__law_expression : Cal PP w K mg base CX0 75 "_law_expression" ["_law_state", "_law_levels", "_law_want", "_law_bound"] (spExp 5))
    (c__law_evaluated : Cal PP w K mg base CX0 75 "_law_evaluated" ["_law_expression_here", "_law_environment_here", "_law_owner"] (spEvd 6)) (c__law_eval : Cal PP w K mg base CX0 75 "_law_eval" ["_law_expression_here", "_law_environment_here", "_law_owner"] (spLEv 6))
    (c__law_right : Cal PP w K mg base CX0 75 "_law_right" ["_law_told", "_law_due"] spRight) (c__law_spoil : Cal PP w K mg base CX0 75 "_law_spoil" ["_law_value_here"] (spSpoil 20))
    (f : Addr) (cdv : Value) (A : Around) (outer : List Env) (s : Shared) (H : Hp) (vs : List V) (Q : VK) (E : XK) (hg : A.guards = some []) (hr : Room 75 (A.deeper (envOfC "law" (defScope s_law) s.heap.objs.size f cdv))) (h : spLaw K vs H Q E) :
    ∃ t, PSs (cxOf CX0 PP w K mg base lawNs "law" (defScope s_law) f cdv A outer s H E) (defBody s_law) t ∧ t { nx := fun _ H' => Q .non H', rt := Q } (start lawNs vs) H := by
  obtain ⟨B, ns, rfl, hB, q⟩ := h
  have hu := hu_of hr
  have call_repr := call_reprD (X := cxOf CX0 PP w K mg base lawNs "law" (defScope s_law) f cdv A outer s H E) hg (by have := hr.un; show (A.deeper _).units + 64 < cLine; omega) hS
  refine ⟨_, (pss_cons (ps_for (passes_of rfl) rfl (pi_range1 (by rfl) z.range (pa_cons (pe_callB (call_min2 rfl) (by rfl) z.min (by decide +kernel) (pa_cons pe_int (pa_cons (pe_callB (call_maxA rfl) (by rfl) z.max (by decide +kernel) (pa_cons pe_int (pa_cons (pe_op op_fdivW (pe_callB (call_lenK (K := K) rfl) (by rfl) z.len (by decide +kernel) (pa_cons (pv 0) pa_nil)) pe_int) pa_nil))) pa_nil))) pa_nil)) (pg_name (i := 1) sc_law.nd rfl (Or.inl rfl)) (pss_cons (ps_set (i := 2) sc_law.nd rfl (Or.inl rfl) (pe_cal c__law_environment hr (by rfl) (pa_cons (pe_cal c__law_start hr (by rfl) (pa_cons (pe_cal c__law_cell hr (by rfl) (pa_cons (pv 0) (pa_cons (pe_op op_mulW pe_int (pv 1)) pa_nil))) (pa_cons (pv 1) pa_nil))) pa_nil)))
    (pss_cons (ps_set (i := 3) sc_law.nd rfl (Or.inl rfl) (pe_callB call_repr (by rfl) z.repr (by decide +kernel) (pa_cons (pv 2) pa_nil)))
    (pss_one (ps_for (passes_of rfl) rfl (pi_range1 (by rfl) z.range (pa_cons pe_int pa_nil)) (pg_name (i := 4) sc_law.nd rfl (Or.inl rfl)) (pss_cons (ps_set (i := 5) sc_law.nd rfl (Or.inl rfl) (pe_cal c__law_start hr (by rfl) (pa_cons (pe_cal c__law_cell hr (by rfl) (pa_cons (pv 0) (pa_cons (pe_op op_add (pe_op op_add (pe_op op_mulW pe_int (pv 1)) pe_int) (pv 4)) pa_nil))) (pa_cons (pv 1) pa_nil))))
    (pss_cons (ps_set (i := 6) sc_law.nd rfl (Or.inl rfl) (pe_cal c__law_digit hr (by rfl) (pa_cons (pv 5) (pa_cons pe_int pa_nil))))
    (pss_cons (ps_set (i := 7) sc_law.nd rfl (Or.inl rfl) (pe_cal c__law_expression hr (by rfl) (pa_cons (pv 5) (pa_cons (pe_op op_add pe_int (pe_cal c__law_digit hr (by rfl) (pa_cons (pv 5) (pa_cons pe_int pa_nil)))) (pa_cons (pv 6) (pa_cons (pe_lst pa_nil) pa_nil))))))
    (pss_cons (ps_set (i := 8) sc_law.nd rfl (Or.inl rfl) (pe_cal c__law_digit hr (by rfl) (pa_cons (pv 5) (pa_cons pe_int pa_nil))))
    (pss_cons (ps_set (i := 9) sc_law.nd rfl (Or.inl rfl) (pe_cal c__law_evaluated hr (by rfl) (pa_cons (pv 7) (pa_cons (pv 2) (pa_cons (pv 8) pa_nil)))))
    (pss_cons (ps_if (PW.pt (pw_or (pt_not (pt_val (pe_cal c__law_right hr (by rfl) (pa_cons (pv 9) (pa_cons (pe_cal c__law_eval hr (by rfl) (pa_cons (pv 7) (pa_cons (pv 2) (pa_cons (pv 8) pa_nil)))) pa_nil))))) (pw_or1 (pt_cmpR op_ne (pe_callB call_repr (by rfl) z.repr (by decide +kernel) (pa_cons (pv 2) pa_nil)) (pv 3) (nomark _))))) (pss_one (ps_ret pe_bl)) pss_nil)
    (pss_cons (ps_expr (pe_cal c__law_spoil hr (by rfl) (pa_cons (pe_ix ix_tup (pv 9) pe_int (fun _ _ => rfl)) pa_nil)))
    (pss_cons (ps_if (pt_cmpR op_ne (pe_callB call_repr (by rfl) z.repr (by decide +kernel) (pa_cons (pv 2) pa_nil)) (pv 3) (nomark _)) (pss_one (ps_ret pe_bl)) pss_nil)
    (pss_cons (ps_set (i := 9) sc_law.nd rfl (Or.inl rfl) (pe_cal c__law_evaluated hr (by rfl) (pa_cons (pv 7) (pa_cons (pv 2) (pa_cons (pv 8) pa_nil)))))
    (pss_one (ps_if (pt_not (pt_val (pe_cal c__law_right hr (by rfl) (pa_cons (pv 9) (pa_cons (pe_cal c__law_eval hr (by rfl) (pa_cons (pv 7) (pa_cons (pv 2) (pa_cons (pv 8) pa_nil)))) pa_nil))))) (pss_one (ps_ret pe_bl)) pss_nil))))))))))))))))
    (pss_one (ps_ret pe_bl))), ?_⟩
  obtain ⟨M, eM⟩ : ∃ M : Int, M = (if (if ((((ns.map V.int).length : Nat) : Int) / 3) > 1 then (((ns.map V.int).length : Nat) : Int) / 3 else 1) < 9 then (if ((((ns.map V.int).length : Nat) : Int) / 3) > 1 then (((ns.map V.int).length : Nat) : Int) / 3 else 1) else 9) := ⟨_, rfl⟩
  have M0 : 0 ≤ M ∧ M ≤ 9 := by
    rw [eM]
    split
    · rename_i h
      refine ⟨?_, by omega⟩
      split <;> omega
    · exact ⟨by decide, by decide⟩
  refine ⟨_, rfl, .inl ⟨_, _, rfl, .inl ⟨_, hB, rfl⟩, _, _, rfl, rfl, ?_, .inl ⟨_, _, rfl, _, _, rfl, M, ?_, by omega, by omega, ?_⟩⟩⟩
  · exact ⟨by decide, by decide⟩
  · rw [eM]
  refine for_it walk_range (Pv := fun j σ H' => (∃ x1 x2 x3 x4 x5 x6 x7 x8 x9, σ = [some (.ref B), x1, x2, x3, x4, x5, x6, x7, x8, x9]) ∧ Same H H') ⟨⟨_, _, _, _, _, _, _, _, _, rfl⟩, .refl H⟩ (fun _ _ _ _ _ => trivial) (fun j x σ H1 H' hj pv y => ?_) fun σ H' pv => ?_
  · obtain ⟨⟨x1, x2, x3, x4, x5, x6, x7, x8, x9, rfl⟩, s1⟩ := pv
    obtain ⟨rfl, hx⟩ := y
    obtain rfl : x = .int (j : Nat) := by
      rw [hx]
      show V.int (0 + (j : Int)) = _
      rw [Int.zero_add]
    have j9 : j < 9 := by omega
    have e16 : (2 : Nat) ^ 4 = 16 := by decide
    have M3 : CMulW 3 (j : Nat) := wide_mul (a := 2) (b := 4) (by decide) (by omega) (by decide) (by decide) (by decide)
    refine setS ⟨_, rfl, _, rfl, _, _, rfl, rfl, M3, B, ns, 3 * j, by rw [show ((3 * j : Nat) : Int) = 3 * (j : Int) by omega], sqL_later hB s1, fun c0 => ⟨_, rfl, c0, j, rfl, by omega, fun n0 h0 S0 hS0 => ⟨S0, rfl, ⟨n0, h0, upd_same⟩, fun D kvs ds H3 c3 hD hk rs eo sg => ?_⟩⟩⟩
    have g3 := nw_sub (upd H' S0 (.lst [.int n0])) H3
    have s3 : Same H H3 := same_ch (s1.trans (same_new hS0 _)) (s1.free hS0) c3
    obtain ⟨w1, w2, w3, w4⟩ := env_dat eo sg
    have env : ∀ {H4 : Hp}, Same (nw (upd H' S0 (.lst [.int n0])) H3) H4 → Rep H4 (.ref D) (.rcd ks0 ds) := fun g => .rcd (.inl (g _ _ hD)) hk (rs.mono (rds_of g))
    refine setS ⟨_, rfl, D, _, rfl, env g3, w1, w2, w3, w4, ?_⟩
    refine ⟨2, rfl, by decide, by decide, ?_⟩
    refine for_it walk_range (Pv := fun jj σ H4 => (∃ x4 x5 x6 x7 x8 x9, σ = [some (.ref B), some (.int (j : Nat)), some (.ref D), some (.str (Dat.rcd ks0 ds).py.shown), x4, x5, x6, x7, x8, x9]) ∧ Same H H4 ∧ Same (nw (upd H' S0 (.lst [.int n0])) H3) H4) ⟨⟨_, _, _, _, _, _, rfl⟩, s3, g3⟩ (fun _ _ _ _ _ => trivial) (fun jj x σ H4 H4' hjj pv y => ?_) fun σ H4 pv => ?_
    · obtain ⟨⟨x4, x5, x6, x7, x8, x9, rfl⟩, s4, g4⟩ := pv
      obtain ⟨rfl, hx⟩ := y
      obtain rfl : x = .int (jj : Nat) := by
        rw [hx]
        show V.int (0 + (jj : Int)) = _
        rw [Int.zero_add]
      refine setS ⟨_, rfl, _, rfl, _, _, rfl, rfl, M3, _, _, rfl, rfl, _, rfl, _, _, rfl, rfl, B, ns, 3 * j + 1 + jj, by rw [show ((3 * j + 1 + jj : Nat) : Int) = 3 * (j : Int) + 1 + (jj : Int) by omega], sqL_later hB s4, fun c1 => ⟨_, rfl, c1, j, rfl, by omega, fun n1 h1 S hS => ?_⟩⟩
      have st5 : St S (upd H4' S (.lst [.int n1])) := ⟨n1, h1, upd_same⟩
      refine setS (dig rfl rfl st5 (by decide) (by decide) fun wn H6 v0 v1 c6 _ => setS ⟨_, rfl, dig rfl rfl c6.st (by decide) (by decide) fun i H7 i0 i1 c7 _ => ⟨_, _, rfl, rfl, _, rfl, Nat.zero_le _, fun B0 hB0 => ?_⟩⟩)
      obtain ⟨l, el, l4⟩ : ∃ l : Nat, 1 + i = (l : Nat) ∧ l ≤ 4 := ⟨(1 + i).toNat, by omega, by omega⟩
      have st8 := c7.st.same (same_new hB0 (.lst []))
      have nB0 : B0 ≠ S := fun e => by obtain ⟨u, e2⟩ := c7.st.some; rw [← e, hB0] at e2; cases e2
      refine exp_callZ (E := E0) (bs := []) el (by omega) st8 nB0 upd_same (by show 0 + l ≤ 100; omega) (fun _ h => nomatch h) v0 (by omega) fun v H9 c9 g9 => setS (dig rfl rfl c9.st (by decide) (by decide) fun ow H10 o0 o1 c10 _ => ?_)
      have cc : Ch S (upd H4' S (.lst [.int n1])) H10 := (((c6.trans c7).more (same_new hB0 _)).trans c9).trans c10
      have s10 : Same H H10 := same_ch (s4.trans (same_new hS _)) (s4.free hS) cc
      have g10 := same_ch (g4.trans (same_new hS _)) (g4.free hS) cc
      have n10 : Same (nw (upd H7 B0 (.lst [])) H9) H10 := fun b o e => by
        obtain ⟨e1, e2⟩ := nw_some e
        exact c10.off b o (fun z => by obtain ⟨u, e3⟩ := st8.some; rw [z, e3] at e1; cases e1) e2
      obtain ⟨x, R, lv, ok⟩ := g9
      have R := R.mono (rds_of n10)
      have ok := ok ks0 (fun _ h => h) fun _ h => nomatch h
      have lv : x.lvl ≤ 6 := by omega
      have I : EvIn H10 D ks0 ds ow 6 := ⟨⟨kvs, .inl (g10 D _ hD), hk, rs.mono (rds_of g10)⟩, eo, by decide, by
        have hb : big30 = 1000000000000000000000000000000 := rfl
        rw [hb]
        omega⟩
      refine setS (told_call rfl rfl rfl R ok lv I (.refl _) fun p H11 s11 t11 => ?_)
      have p11 : Tst (tOr (tNot (tB (tCal spRight E0 (tCons (tVar 9) (tCons (tCal (spLEv 6) E0 (tCons (tVar 7) (tCons (tVar 2) (tCons (tVar 8) tNil)))) tNil))))) (tTest (tOp rNe (tCB (fun xs H Q => ∃ a d, xs = [V.ref a] ∧ Rep H (V.ref a) d ∧ d.WD ∧ d.Sg ∧ d.dep ≤ 30 ∧ d.sz ≤ 100000 ∧ Q (V.str d.py.shown) H) (tCons (tVar 2) tNil)) (tVar 3))))
          [some (.ref B), some (.int (j : Nat)), some (.ref D), some (.str (Dat.rcd ks0 ds).py.shown), some (.int (jj : Nat)), some (.ref S), some (.int wn), some v, some (.int ow), some (.ref p)] H11 false :=
        fun Q' q' => due_call rfl rfl rfl rfl R ok lv I s11 t11 fun H12 s12 => ⟨true, rfl, (if_neg Bool.false_ne_true).mpr ⟨_, rfl, D, _, rfl, env ((g10.trans s11).trans s12), w1, w2, w3, w4, _, rfl, rfl, false, by simp, q' H12 s12⟩⟩
      refine if_tstN p11 (fun h => by cases h) fun _ H12 s12 => ?_
      obtain ⟨u, y0, d, F, hp, ow1, nF, wd, dp, fF⟩ := (t11.same s12).own
      refine at_tup 0 rfl hp rfl ⟨u, d, F, rfl, ow1, nF, wd, dp, fun H13 b13 => ?_⟩
      have s13 : Same H10 H13 := fun b o e => b13 b o (fun m => by rw [fF b m] at e; cases e) ((s11.trans s12) b o e)
      dsimp only
      refine if_pureN (p := false) (fun Q' q' => ⟨_, rfl, D, _, rfl, env (g10.trans s13), w1, w2, w3, w4, _, rfl, rfl, false, by simp, q'⟩) (fun h => by cases h) fun _ => ?_
      refine setS (told_call rfl rfl rfl R ok lv I s13 fun p2 H14 s14 t14 => ?_)
      refine if_tst (p := false) (fun Q' q' => due_call rfl rfl rfl rfl R ok lv I (s13.trans s14) t14 fun H15 s15 => ⟨true, rfl, q' H15 s15⟩) (fun h => by cases h) fun _ H15 s15 => ?_
      have s1015 := (s13.trans s14).trans s15
      exact ⟨⟨_, _, _, _, _, _, rfl⟩, s10.trans s1015, g10.trans s1015⟩
    · obtain ⟨⟨x4, x5, x6, x7, x8, x9, rfl⟩, s4, g4⟩ := pv
      exact ⟨⟨_, _, _, _, _, _, _, _, _, rfl⟩, s4⟩
  · obtain ⟨⟨x1, x2, x3, x4, x5, x6, x7, x8, x9, rfl⟩, s1⟩ := pv
    exact q H'
end
end Vk
set_option maxHeartbeats 0
/-! the top's run, what is read of it -/
namespace Vk
open PySem PySem.Spec PyProof.Rows L2
def e_kind_of_value : He.DefD := ⟨("kind_of_value", none), "kind_of_value", "kind_of_value", defArgs s_kind_of_value, defBody s_kind_of_value, defScope s_kind_of_value, [], []⟩
def e_parts_of : He.DefD := ⟨("parts_of", none), "parts_of", "parts_of", defArgs s_parts_of, defBody s_parts_of, defScope s_parts_of, [], []⟩
def e_same : He.DefD := ⟨("same", none), "same", "same", defArgs s_same, defBody s_same, defScope s_same, [], []⟩
def e_same_members : He.DefD := ⟨("same_members", none), "same_members", "same_members", defArgs s_same_members, defBody s_same_members, defScope s_same_members, [], []⟩
def e_same_fields : He.DefD := ⟨("same_fields", none), "same_fields", "same_fields", defArgs s_same_fields, defBody s_same_fields, defScope s_same_fields, [], []⟩
def e_depth : He.DefD := ⟨("depth", none), "depth", "depth", defArgs s_depth, defBody s_depth, defScope s_depth, [], []⟩
def e_size : He.DefD := ⟨("size", none), "size", "size", defArgs s_size, defBody s_size, defScope s_size, [], []⟩
def e_text_of : He.DefD := ⟨("text_of", none), "text_of", "text_of", defArgs s_text_of, defBody s_text_of, defScope s_text_of, [], []⟩
def e_copied : He.DefD := ⟨("copied", none), "copied", "copied", defArgs s_copied, defBody s_copied, defScope s_copied, [], []⟩
def e_bounded_number : He.DefD := ⟨("bounded_number", none), "bounded_number", "bounded_number", defArgs s_bounded_number, defBody s_bounded_number, defScope s_bounded_number, [], []⟩
def e_bounded_text : He.DefD := ⟨("bounded_text", none), "bounded_text", "bounded_text", defArgs s_bounded_text, defBody s_bounded_text, defScope s_bounded_text, [], []⟩
def e_bounded : He.DefD := ⟨("bounded", none), "bounded", "bounded", defArgs s_bounded, defBody s_bounded, defScope s_bounded, [], []⟩
def e_need_boolean : He.DefD := ⟨("need_boolean", none), "need_boolean", "need_boolean", defArgs s_need_boolean, defBody s_need_boolean, defScope s_need_boolean, [], []⟩
def e_need_number : He.DefD := ⟨("need_number", none), "need_number", "need_number", defArgs s_need_number, defBody s_need_number, defScope s_need_number, [], []⟩
def e_need_list : He.DefD := ⟨("need_list", none), "need_list", "need_list", defArgs s_need_list, defBody s_need_list, defScope s_need_list, [], []⟩
def e_need_record : He.DefD := ⟨("need_record", none), "need_record", "need_record", defArgs s_need_record, defBody s_need_record, defScope s_need_record, [], []⟩
def e_field_of : He.DefD := ⟨("field_of", none), "field_of", "field_of", defArgs s_field_of, defBody s_field_of, defScope s_field_of, [], []⟩
def e_has_place : He.DefD := ⟨("has_place", none), "has_place", "has_place", defArgs s_has_place, defBody s_has_place, defScope s_has_place, [], []⟩
def e_at_place : He.DefD := ⟨("at_place", none), "at_place", "at_place", defArgs s_at_place, defBody s_at_place, defScope s_at_place, [], []⟩
def e_length_of : He.DefD := ⟨("length_of", none), "length_of", "length_of", defArgs s_length_of, defBody s_length_of, defScope s_length_of, [], []⟩
def e_text_from : He.DefD := ⟨("text_from", none), "text_from", "text_from", defArgs s_text_from, defBody s_text_from, defScope s_text_from, [], []⟩
def e_get_from : He.DefD := ⟨("get_from", none), "get_from", "get_from", defArgs s_get_from, defBody s_get_from, defScope s_get_from, [], []⟩
def e_keys_of : He.DefD := ⟨("keys_of", none), "keys_of", "keys_of", defArgs s_keys_of, defBody s_keys_of, defScope s_keys_of, [], []⟩
def e_quotient : He.DefD := ⟨("quotient", none), "quotient", "quotient", defArgs s_quotient, defBody s_quotient, defScope s_quotient, [], []⟩
def e_least_of : He.DefD := ⟨("least_of", none), "least_of", "least_of", defArgs s_least_of, defBody s_least_of, defScope s_least_of, [], []⟩
def e_greatest_of : He.DefD := ⟨("greatest_of", none), "greatest_of", "greatest_of", defArgs s_greatest_of, defBody s_greatest_of, defScope s_greatest_of, [], []⟩
def e_call_function : He.DefD := ⟨("call_function", none), "call_function", "call_function", defArgs s_call_function, defBody s_call_function, defScope s_call_function, [], []⟩
def e_add : He.DefD := ⟨("add", none), "add", "add", defArgs s_add, defBody s_add, defScope s_add, [], []⟩
def e_calculate : He.DefD := ⟨("calculate", none), "calculate", "calculate", defArgs s_calculate, defBody s_calculate, defScope s_calculate, [], []⟩
def e_compare : He.DefD := ⟨("compare", none), "compare", "compare", defArgs s_compare, defBody s_compare, defScope s_compare, [], []⟩
def e_operate : He.DefD := ⟨("operate", none), "operate", "operate", defArgs s_operate, defBody s_operate, defScope s_operate, [], []⟩
def e_evaluate_all : He.DefD := ⟨("evaluate_all", none), "evaluate_all", "evaluate_all", defArgs s_evaluate_all, defBody s_evaluate_all, defScope s_evaluate_all, [], []⟩
def e_evaluate_binary : He.DefD := ⟨("evaluate_binary", none), "evaluate_binary", "evaluate_binary", defArgs s_evaluate_binary, defBody s_evaluate_binary, defScope s_evaluate_binary, [], []⟩
def e_evaluate_choice : He.DefD := ⟨("evaluate_choice", none), "evaluate_choice", "evaluate_choice", defArgs s_evaluate_choice, defBody s_evaluate_choice, defScope s_evaluate_choice, [], []⟩
def e_evaluate_gathering : He.DefD := ⟨("evaluate_gathering", none), "evaluate_gathering", "evaluate_gathering", defArgs s_evaluate_gathering, defBody s_evaluate_gathering, defScope s_evaluate_gathering, [], []⟩
def e_evaluate_made : He.DefD := ⟨("evaluate_made", none), "evaluate_made", "evaluate_made", defArgs s_evaluate_made, defBody s_evaluate_made, defScope s_evaluate_made, [], []⟩
def e_evaluate_part : He.DefD := ⟨("evaluate_part", none), "evaluate_part", "evaluate_part", defArgs s_evaluate_part, defBody s_evaluate_part, defScope s_evaluate_part, [], []⟩
def e_evaluate : He.DefD := ⟨("evaluate", none), "evaluate", "evaluate", defArgs s_evaluate, defBody s_evaluate, defScope s_evaluate, [], []⟩
def e_L_cell : He.DefD := ⟨("_law_cell", none), "_law_cell", "_law_cell", defArgs s_L_cell, defBody s_L_cell, defScope s_L_cell, [], []⟩
def e_L_start : He.DefD := ⟨("_law_start", none), "_law_start", "_law_start", defArgs s_L_start, defBody s_L_start, defScope s_L_start, [], []⟩
def e_L_digit : He.DefD := ⟨("_law_digit", none), "_law_digit", "_law_digit", defArgs s_L_digit, defBody s_L_digit, defScope s_L_digit, [], []⟩
def e_L_text : He.DefD := ⟨("_law_text", none), "_law_text", "_law_text", defArgs s_L_text, defBody s_L_text, defScope s_L_text, [], []⟩
def e_L_number : He.DefD := ⟨("_law_number", none), "_law_number", "_law_number", defArgs s_L_number, defBody s_L_number, defScope s_L_number, [], []⟩
def e_L_value : He.DefD := ⟨("_law_value", none), "_law_value", "_law_value", defArgs s_L_value, defBody s_L_value, defScope s_L_value, [], []⟩
def e_L_kind : He.DefD := ⟨("_law_kind", none), "_law_kind", "_law_kind", defArgs s_L_kind, defBody s_L_kind, defScope s_L_kind, [], []⟩
def e_L_same : He.DefD := ⟨("_law_same", none), "_law_same", "_law_same", defArgs s_L_same, defBody s_L_same, defScope s_L_same, [], []⟩
def e_L_parts : He.DefD := ⟨("_law_parts", none), "_law_parts", "_law_parts", defArgs s_L_parts, defBody s_L_parts, defScope s_L_parts, [], []⟩
def e_L_depth : He.DefD := ⟨("_law_depth", none), "_law_depth", "_law_depth", defArgs s_L_depth, defBody s_L_depth, defScope s_L_depth, [], []⟩
def e_L_size : He.DefD := ⟨("_law_size", none), "_law_size", "_law_size", defArgs s_L_size, defBody s_L_size, defScope s_L_size, [], []⟩
def e_L_text_of : He.DefD := ⟨("_law_text_of", none), "_law_text_of", "_law_text_of", defArgs s_L_text_of, defBody s_L_text_of, defScope s_L_text_of, [], []⟩
def e_L_made : He.DefD := ⟨("_law_made", none), "_law_made", "_law_made", defArgs s_L_made, defBody s_L_made, defScope s_L_made, [], []⟩
def e_L_bounded : He.DefD := ⟨("_law_bounded", none), "_law_bounded", "_law_bounded", defArgs s_L_bounded, defBody s_L_bounded, defScope s_L_bounded, [], []⟩
def e_L_joined : He.DefD := ⟨("_law_joined", none), "_law_joined", "_law_joined", defArgs s_L_joined, defBody s_L_joined, defScope s_L_joined, [], []⟩
def e_L_quotient : He.DefD := ⟨("_law_quotient", none), "_law_quotient", "_law_quotient", defArgs s_L_quotient, defBody s_L_quotient, defScope s_L_quotient, [], []⟩
def e_L_sum : He.DefD := ⟨("_law_sum", none), "_law_sum", "_law_sum", defArgs s_L_sum, defBody s_L_sum, defScope s_L_sum, [], []⟩
def e_L_operate : He.DefD := ⟨("_law_operate", none), "_law_operate", "_law_operate", defArgs s_L_operate, defBody s_L_operate, defScope s_L_operate, [], []⟩
def e_L_at : He.DefD := ⟨("_law_at", none), "_law_at", "_law_at", defArgs s_L_at, defBody s_L_at, defScope s_L_at, [], []⟩
def e_L_field : He.DefD := ⟨("_law_field", none), "_law_field", "_law_field", defArgs s_L_field, defBody s_L_field, defScope s_L_field, [], []⟩
def e_L_call : He.DefD := ⟨("_law_call", none), "_law_call", "_law_call", defArgs s_L_call, defBody s_L_call, defScope s_L_call, [], []⟩
def e_L_evaluated : He.DefD := ⟨("_law_evaluated", none), "_law_evaluated", "_law_evaluated", defArgs s_L_evaluated, defBody s_L_evaluated, defScope s_L_evaluated, [], []⟩
def e_L_right : He.DefD := ⟨("_law_right", none), "_law_right", "_law_right", defArgs s_L_right, defBody s_L_right, defScope s_L_right, [], []⟩
def e_L_literal : He.DefD := ⟨("_law_literal", none), "_law_literal", "_law_literal", defArgs s_L_literal, defBody s_L_literal, defScope s_L_literal, [], []⟩
def e_L_leaf : He.DefD := ⟨("_law_leaf", none), "_law_leaf", "_law_leaf", defArgs s_L_leaf, defBody s_L_leaf, defScope s_L_leaf, [], []⟩
def e_L_function : He.DefD := ⟨("_law_function", none), "_law_function", "_law_function", defArgs s_L_function, defBody s_L_function, defScope s_L_function, [], []⟩
def e_L_many : He.DefD := ⟨("_law_many", none), "_law_many", "_law_many", defArgs s_L_many, defBody s_L_many, defScope s_L_many, [], []⟩
def e_L_made_of : He.DefD := ⟨("_law_made_of", none), "_law_made_of", "_law_made_of", defArgs s_L_made_of, defBody s_L_made_of, defScope s_L_made_of, [], []⟩
def e_L_signed : He.DefD := ⟨("_law_signed", none), "_law_signed", "_law_signed", defArgs s_L_signed, defBody s_L_signed, defScope s_L_signed, [], []⟩
def e_L_expression : He.DefD := ⟨("_law_expression", none), "_law_expression", "_law_expression", defArgs s_L_expression, defBody s_L_expression, defScope s_L_expression, [], []⟩
def e_L_environment : He.DefD := ⟨("_law_environment", none), "_law_environment", "_law_environment", defArgs s_L_environment, defBody s_L_environment, defScope s_L_environment, [], []⟩
def e_L_all : He.DefD := ⟨("_law_all", none), "_law_all", "_law_all", defArgs s_L_all, defBody s_L_all, defScope s_L_all, [], []⟩
def e_L_boolean : He.DefD := ⟨("_law_boolean", none), "_law_boolean", "_law_boolean", defArgs s_L_boolean, defBody s_L_boolean, defScope s_L_boolean, [], []⟩
def e_L_gathered : He.DefD := ⟨("_law_gathered", none), "_law_gathered", "_law_gathered", defArgs s_L_gathered, defBody s_L_gathered, defScope s_L_gathered, [], []⟩
def e_L_two : He.DefD := ⟨("_law_two", none), "_law_two", "_law_two", defArgs s_L_two, defBody s_L_two, defScope s_L_two, [], []⟩
def e_L_one : He.DefD := ⟨("_law_one", none), "_law_one", "_law_one", defArgs s_L_one, defBody s_L_one, defScope s_L_one, [], []⟩
def e_L_written : He.DefD := ⟨("_law_written", none), "_law_written", "_law_written", defArgs s_L_written, defBody s_L_written, defScope s_L_written, [], []⟩
def e_L_eval : He.DefD := ⟨("_law_eval", none), "_law_eval", "_law_eval", defArgs s_L_eval, defBody s_L_eval, defScope s_L_eval, [], []⟩
def e_L_spoil : He.DefD := ⟨("_law_spoil", none), "_law_spoil", "_law_spoil", defArgs s_L_spoil, defBody s_L_spoil, defScope s_L_spoil, [], []⟩
def e_law : He.DefD := ⟨("law", none), "law", "law", defArgs s_law, defBody s_law, defScope s_law, [], []⟩
def hFn0 : List He.DefD := [e_kind_of_value, e_parts_of, e_same, e_same_members, e_same_fields, e_depth, e_size, e_text_of, e_copied, e_bounded_number, e_bounded_text, e_bounded, e_need_boolean, e_need_number, e_need_list, e_need_record, e_field_of, e_has_place, e_at_place, e_length_of]
def hFn1 : List He.DefD := [e_text_from, e_get_from, e_keys_of, e_quotient, e_least_of, e_greatest_of, e_call_function, e_add, e_calculate, e_compare, e_operate, e_evaluate_all, e_evaluate_binary, e_evaluate_choice, e_evaluate_gathering, e_evaluate_made, e_evaluate_part, e_evaluate, e_L_cell, e_L_start]
def hFn2 : List He.DefD := [e_L_digit, e_L_text, e_L_number, e_L_value, e_L_kind, e_L_same, e_L_parts, e_L_depth, e_L_size, e_L_text_of, e_L_made, e_L_bounded, e_L_joined, e_L_quotient, e_L_sum, e_L_operate, e_L_at, e_L_field, e_L_call, e_L_evaluated]
def hFn3 : List He.DefD := [e_L_right, e_L_literal, e_L_leaf, e_L_function, e_L_many, e_L_made_of, e_L_signed, e_L_expression, e_L_environment, e_L_all, e_L_boolean, e_L_gathered, e_L_two, e_L_one, e_L_written, e_L_eval, e_L_spoil, e_law]
def hFn : List He.DefD := hFn0 ++ hFn1 ++ hFn2 ++ hFn3
def hFa0 : List He.Fa := [.glo "kind_of_value", .glo "parts_of", .glo "same", .glo "same_members", .glo "same_fields", .glo "depth", .glo "size", .glo "text_of", .glo "copied", .glo "bounded_number", .glo "bounded_text", .glo "bounded", .glo "need_boolean", .glo "need_number", .glo "need_list", .glo "need_record", .glo "field_of", .glo "has_place", .glo "at_place", .glo "length_of"]
def hFa1 : List He.Fa := [.glo "text_from", .glo "get_from", .glo "keys_of", .glo "quotient", .glo "least_of", .glo "greatest_of", .glo "call_function", .glo "add", .glo "calculate", .glo "compare", .glo "operate", .glo "evaluate_all", .glo "evaluate_binary", .glo "evaluate_choice", .glo "evaluate_gathering", .glo "evaluate_made", .glo "evaluate_part", .glo "evaluate", .glo "_law_cell", .glo "_law_start"]
def hFa2 : List He.Fa := [.glo "_law_digit", .glo "_law_text", .glo "_law_number", .glo "_law_value", .glo "_law_kind", .glo "_law_same", .glo "_law_parts", .glo "_law_depth", .glo "_law_size", .glo "_law_text_of", .glo "_law_made", .glo "_law_bounded", .glo "_law_joined", .glo "_law_quotient", .glo "_law_sum", .glo "_law_operate", .glo "_law_at", .glo "_law_field", .glo "_law_call", .glo "_law_evaluated"]
def hFa3 : List He.Fa := [.glo "_law_right", .glo "_law_literal", .glo "_law_leaf", .glo "_law_function", .glo "_law_many", .glo "_law_made_of", .glo "_law_signed", .glo "_law_expression", .glo "_law_environment", .glo "_law_all", .glo "_law_boolean", .glo "_law_gathered", .glo "_law_two", .glo "_law_one", .glo "_law_written", .glo "_law_eval", .glo "_law_spoil", .glo "law", .free "len", .free "isinstance"]
def hFa4 : List He.Fa := [.free "int", .free "str", .free "list", .free "dict", .free "bool", .free "tuple", .free "range", .free "max", .free "min", .free "sum", .free "abs", .free "sorted", .free "repr", .free "super", .glo "Fault", .glo "ViewError", .glo "FUNCTIONS", .int "MOST_NUMBER" 1000000000000000000000000000000, .int "MOST_CHARACTERS" 2000, .int "MOST_MEMBERS" 200]
def hFa5 : List He.Fa := [.int "MOST_DEPTH" 20, .int "MOST_SIZE" 2000]
def hFa : List He.Fa := hFa0 ++ hFa1 ++ hFa2 ++ hFa3 ++ hFa4 ++ hFa5
def hAd0 : List Addr := [0, 1, 2, 3, 4, 5, 6, 7, 8, 9, 10, 11, 12, 13, 14, 15, 16, 17, 18, 19, 20, 21, 22, 23, 24]
def hAd1 : List Addr := [25, 26, 27, 28, 29, 30, 31, 32, 33, 34, 35, 36, 37, 38, 39, 40, 41, 42, 43, 44, 45, 46, 47, 48, 49]
def hAd2 : List Addr := [50, 51, 52, 53, 54, 55, 56, 57, 58, 59, 60, 67, 66, 74, 73, 81, 80, 88, 87, 93, 92, 100, 99, 105, 104]
def hAd3 : List Addr := [112, 111, 119, 118, 126, 125, 133, 132, 140, 139, 154, 153, 161, 160, 175, 174, 182, 181, 189, 188, 196, 195, 203, 202, 231]
def hAd4 : List Addr := [230, 250, 249, 267, 266, 281, 280, 288, 287, 296, 295, 303, 302, 310, 309, 317, 316, 324, 323, 329, 328, 336, 335, 343, 342]
def hAd5 : List Addr := [350, 349, 357, 356, 364, 363, 371, 370, 378, 377, 385, 384, 392, 391, 399, 398, 406, 405, 411, 410, 418, 417, 425, 424, 430]
def hAd6 : List Addr := [429, 435, 434, 440, 439, 447, 446, 454, 453, 461, 460, 468, 467, 475, 474, 482, 481, 489, 488, 496, 495, 503, 502, 510, 509]
def hAd7 : List Addr := [517, 516, 524, 523, 531, 530, 538, 537, 543, 542, 548, 547, 553, 552, 560, 559, 567, 566, 572, 571, 579, 578, 586, 585, 593]
def hAd8 : List Addr := [592, 600, 599, 607, 606, 612, 611, 619, 618, 626, 625, 633, 632, 289]
def hAd : List Addr := hAd0 ++ hAd1 ++ hAd2 ++ hAd3 ++ hAd4 ++ hAd5 ++ hAd6 ++ hAd7 ++ hAd8
def hLs0 : List PySem.Str := ["ViewError", "Fault", "kind_of_value", "parts_of", "same", "same_members", "same_fields", "depth", "size", "text_of", "copied", "MOST_NUMBER", "MOST_CHARACTERS", "MOST_MEMBERS", "MOST_DEPTH", "MOST_SIZE", "bounded_number", "bounded_text", "bounded", "need_boolean", "need_number", "need_text", "need_list", "need_record", "need_row"]
def hLs1 : List PySem.Str := ["field_of", "has_place", "at_place", "DIGITS", "MOST_RANGE", "length_of", "text_from", "number_from", "slice_of", "find_in", "get_from", "join_all", "split_text", "keys_of", "sorted_list", "range_to", "quotient", "rest_of", "least_of", "greatest_of", "FUNCTIONS", "call_function", "add", "calculate", "compare"]
def hLs2 : List PySem.Str := ["operate", "evaluate_all", "evaluate_binary", "evaluate_choice", "evaluate_gathering", "evaluate_made", "evaluate_part", "evaluate", "_law_cell", "_law_start", "_law_digit", "_law_text", "_law_number", "_law_value", "_law_kind", "_law_same", "_law_parts", "_law_depth", "_law_size", "_law_text_of", "_law_made", "_law_bounded", "_law_joined", "_law_quotient", "_law_sum"]
def hLs3 : List PySem.Str := ["_law_operate", "_law_at", "_law_field", "_law_call", "_law_evaluated", "_law_right", "_law_literal", "_law_leaf", "_law_function", "_law_many", "_law_made_of", "_law_signed", "_law_expression", "_law_environment", "_law_all", "_law_boolean", "_law_gathered", "_law_two", "_law_one", "_law_written", "_law_eval", "_law_spoil"]
def hLs : List PySem.Str := hLs0 ++ hLs1 ++ hLs2 ++ hLs3
def fKeys : List Str := ["length", "text", "number", "slice", "find", "get", "join", "split", "keys", "sorted", "range", "rest", "min", "max"]
def fVals : List (Str × He.Dv) := [("length", .glo "length_of"), ("text", .glo "text_from"), ("get", .glo "get_from"), ("keys", .glo "keys_of"), ("min", .glo "least_of"), ("max", .glo "greatest_of")]
/-! ### Fault -/
def cF (K : PySem.W.Frag) : Addr := He.ga K "Fault"
def cV (K : PySem.W.Frag) : Addr := He.ga K "ViewError"
def iF (K : PySem.W.Frag) : Addr := He.ma K (cF K) "__init__"
def kF (K : PySem.W.Frag) : Addr := match K.lookup (iF K) with
  | some ⟨_, _, .func fd, _⟩ => (match fd.code with
    | .ref c => c
    | _ => 0)
  | _ => 0
def lF (K : PySem.W.Frag) : Addr := match K.lookup (iF K) with
  | some ⟨_, _, .func fd, _⟩ => (match fd.closure with
    | [(_, c)] => c
    | _ => 0)
  | _ => 0
/-- the class's object -/
def clsB (K : PySem.W.Frag) (C : Addr) : Bool := match K.lookup C with
  | some ⟨.type t, _, .cls cd, sl⟩ => decide (t = "type") && ((match cd.mro with
    | .ref C' :: bm => decide (C' = C) && PySem.HandSPX.refsVE bm
    | _ => false) && (cd.hasDict && (!cd.hasDel && (match sl.toList with
    | [_, _, _, _, some (.builtin n), _] => decide (n = "ValueError.__new__")
    | _ => false))))
  | _ => false
theorem clsB_ok {K : PySem.W.Frag} {C : Addr} (h : clsB K C = true) : ∃ nm q N bs bm sn sub ab col dd k0 k1 k2 k3 k5, K.lookup C = some (excClassObj nm q C N bs bm true sn sub ab col dd k0 k1 k2 k3 k5 "ValueError.__new__") ∧ PySem.HandSPX.refsVE bm = true := by
  unfold clsB at h
  split at h
  · rename_i t dd cd sl e
    have h1 := (He.ba h).1
    have h2 := (He.ba (He.ba h).2).1
    have h3 := (He.ba (He.ba (He.ba h).2).2).1
    have h4 := (He.ba (He.ba (He.ba (He.ba h).2).2).2).1
    have h5 := (He.ba (He.ba (He.ba (He.ba h).2).2).2).2
    clear h
    obtain ⟨nm, bs, mro, N, q, hd, sn, sub, ab, col, hdl⟩ := cd
    obtain ⟨sl⟩ := sl
    dsimp only at h2 h3 h4 h5
    split at h2
    · rename_i C' bm
      obtain ⟨h6, h7⟩ := He.ba h2
      split at h5
      · rename_i k0 k1 k2 k3 n k5
        have e1 := of_decide_eq_true h1
        have e2 := of_decide_eq_true h6
        have e3 := of_decide_eq_true h5
        have e4 : hdl = false := by
          cases hdl with
          | false => rfl
          | true => cases h4
        subst e1 e2 e3 h3 e4
        exact ⟨nm, q, N, bs, bm, sn, sub, ab, col, dd, k0, k1, k2, k3, k5, e, h7⟩
      · cases h5
    · cases h2
  · cases h
def fileB (K : PySem.W.Frag) (c : Addr) : Bool := match K.lookup c with
  | some ⟨_, _, .fields vs, _⟩ => (match (vs[2]? : Option Value) with
    | some (.str f _) => (PP.main.file : Str) == f
    | _ => false)
  | _ => false
theorem fileB_ok {K : PySem.W.Frag} {c : Addr} (h : fileB K c = true) : ∃ ccl cdd vs ccs file tf, K.lookup c = some ⟨ccl, cdd, .fields vs, ccs⟩ ∧ vs[2]? = some (.str file tf) ∧ ((PP.main.file : Str) == file) = true := by
  unfold fileB at h
  split at h
  · rename_i ccl cdd vs ccs e
    split at h
    · rename_i f t e2
      exact ⟨ccl, cdd, vs, ccs, f, t, e, e2, h⟩
    · cases h
  · cases h
def cellB (K : PySem.W.Frag) (c C : Addr) : Bool := match K.lookup c with
  | some ⟨_, _, .cell (some (.ref D)), _⟩ => decide (D = C)
  | _ => false
theorem cellB_ok {K : PySem.W.Frag} {c C : Addr} (h : cellB K c C = true) : ∃ cl cld csl, K.lookup c = some ⟨cl, cld, .cell (some (.ref C)), csl⟩ := by
  unfold cellB at h
  split at h
  · rename_i cl cld D csl e
    have e1 := of_decide_eq_true h
    subst e1
    exact ⟨cl, cld, csl, e⟩
  · cases h
abbrev IniW : Type := Option (Str × Str × Arguments × FuncBody × Scope × Addr × List Str × Addr)
def iniW (K : PySem.W.Frag) : IniW := match K.lookup (iF K) with
  | some ⟨_, _, .func fd, _⟩ => some (fd.name, fd.qualname, fd.params, fd.body, fd.scope, fd.globals, fd.closure.map (·.1), fd.builtins)
  | _ => none
def iniV : IniW := some (("__init__" : Str), ("Fault.__init__" : Str), L2.defArgs sInit, FuncBody.stmts (L2.defBody sInit), L2.defScope sInit, mainGlobals, ([("__class__" : Str)] : List Str), builtinsNs)
def iniB (K : PySem.W.Frag) : Bool := match K.lookup (iF K) with
  | some ⟨_, _, .func fd, _⟩ => decide (fd.defaults = .none) && decide (fd.code = .ref (kF K))
  | _ => false
theorem ini_ok {K : PySem.W.Frag} (e : iniW K = iniV) (h : iniB K = true) : ∃ (oc : Value) (od : Option Addr) (kV doc pm : Value) (an : Option Addr) (ct : Value) (osl : Array (Option Value)),
    K.lookup (iF K) = some ⟨oc, od, .func (PySem.W.ksFn "__init__" "Fault.__init__" (L2.defArgs sInit) (L2.defBody sInit) (L2.defScope sInit) .none kV doc pm an (.ref (kF K)) ct (lF K)), osl⟩ := by
  unfold iniB at h
  unfold iniW at e
  have el : lF K = match K.lookup (iF K) with
    | some ⟨_, _, .func fd, _⟩ => (match fd.closure with
      | [(_, c)] => c
      | _ => 0)
    | _ => 0 := rfl
  cases q : K.lookup (iF K) with
  | none =>
    rw [q] at h
    cases h
  | some ob =>
    obtain ⟨oc, od, dt, osl⟩ := ob
    rw [q] at h e el
    cases dt with
    | func fd =>
      obtain ⟨n1, n2, n3, n4, n5, n6, n7, n8, n9, n10, n11, n12, n13, n14, n15⟩ := fd
      have e2 : (some (n1, n2, n3, n4, n5, n6, n7.map (·.1), n15) : IniW) = (some (("__init__" : Str), ("Fault.__init__" : Str), L2.defArgs sInit, FuncBody.stmts (L2.defBody sInit), L2.defScope sInit, mainGlobals, ([("__class__" : Str)] : List Str), builtinsNs) : IniW) := e
      simp only [Option.some.injEq, Prod.mk.injEq] at e2
      obtain ⟨h1, h2, h3, h4, h5, h6, h7, h8⟩ := e2
      obtain ⟨k1, k2⟩ := He.ba h
      have d1 : n8 = .none := of_decide_eq_true k1
      have d2 : n13 = .ref (kF K) := of_decide_eq_true k2
      match n7, h7 with
      | [(z, c)], h7 =>
        have hz : z = "__class__" := (List.cons.inj h7).1
        have hc : lF K = c := el
        subst h1 h2 h3 h4 h5 h6 h8 d1 hz
        rw [d2, hc]
        exact ⟨oc, od, n9, n10, n11, n12, n14, osl, rfl⟩
      | [], h7 => exact absurd (congrArg List.length h7) (by simp)
      | _ :: _ :: _, h7 => exact absurd (congrArg List.length h7) (by simp)
    | _ => cases h
def exB (K : PySem.W.Frag) : Bool :=
  clsB K (cF K) && (He.eqO (PySem.W.ks_superIn K (cF K) (cF K) "__init__") (some (some (.builtin "ValueError.__init__"))) && (He.eqO (PySem.W.nsIn K cStatics "thirdparty.any") (some none) && (decide (PySem.W.subIn K (.ref (cF K)) (.type "ValueError") = some true) &&
  (decide (PySem.W.mroIn K (cF K) (.ref (cF K)) = some true) && (He.eqO (PySem.W.findIn K (.ref (cF K)) "__setattr__") (some (some (.builtin "object.__setattr__"))) && (He.eqO (PySem.W.findIn K (.ref (cF K)) "__getattribute__") (some (some (.builtin "BaseException.__getattribute__"))) &&
  (He.eqO (PySem.W.findIn K (.ref (cF K)) "__getattr__") (some none) && (He.eqO (PySem.W.findIn K (.ref (cF K)) "message") (some none) && (He.eqO (PySem.W.findIn K (.ref (cF K)) "__init__") (some (some (.ref (iF K)))) && (decide (PySem.W.typeIn K (.ref (iF K)) = some (.type "function")) &&
  (PySem.W.keepIn K (.ref (cF K)) && (decide (PySem.W.subIn K (.ref (cF K)) (.type "BaseException") = some true) && (decide (PySem.W.typeIn K (.ref (cF K)) = some (.type "type")) && (PySem.W.hasDictIn K (cF K) && (decide (PySem.W.exmOne K (.ref (cF K)) (.ref (cV K)) = some true) &&
  (iniB K && (PySem.W.codeIn K (.ref (kF K)) "Fault.__init__" && (fileB K (kF K) && (cellB K (lF K) (cF K) && (He.valsB K (He.ga K "FUNCTIONS") fVals && He.dictB K sysModules))))))))))))))))))))
abbrev AlV : Type := He.AlD × (Option (List (Option (Str × Int))) × (IniW × Bool))
def obsV (K : PySem.W.Frag) : AlV := (He.obsD hFa hFn K, He.dicW K (He.ga K "FUNCTIONS"), iniW K, exB K)
def valW (w : World) : AlV := (He.valD hFn, some (He.keysIn w.params fKeys), iniV, true)
def hookV : PySem.W.Hook where
  α := AlV
  obs := fun s => obsV (He.frG s.heap.get? hAd)
  val := fun w => valW w
  says := fun w h => ∃ K : PySem.W.Frag, K.In h ∧ obsV K = valW w
  of := fun _ _ e => ⟨_, He.frG_in, e⟩
  keeps := fun _ _ _ ⟨K, hK, c⟩ k => ⟨K, PySem.W.Frag.In.keeps hK k, c⟩
abbrev R : PySem.W.OpenRow := PySem.W.OpenLaw.row PySem.Challenge.rw_viewloom_k19_whole_expressions
def ob (s : PySem.W.SharedT) : AlV := obsV (He.frG (HandSHeadRun.getT s) hAd)
theorem ob_eq (s : PySem.W.SharedT) : ob s = hookV.obs s.abs := by
  have e : HandSHeadRun.getT s = s.abs.heap.get? := funext (HandSHeadRun.getT_eq s)
  show obsV (He.frG (HandSHeadRun.getT s) hAd) = obsV (He.frG s.abs.heap.get? hAd)
  rw [e]
end Vk
set_option maxHeartbeats 0
/-! the top's run -/
namespace Vk
open PySem PySem.Spec PyProof.Rows L2
theorem run0 (w : World) : HandSHeadRun.RunEq R (PySem.W.view R.prog [106]) hookV ob 12000 hLs (w.withFollow "special-get-raises" false) := by
  intro os
  kernel_rfl
theorem run1 (w : World) : HandSHeadRun.RunEq R (PySem.W.view R.prog [106]) hookV ob 12000 hLs (w.withFollow "special-get-raises" true) := by
  intro os
  kernel_rfl
theorem run (w : World) : HandSHeadRun.RunEq R (PySem.W.view R.prog [106]) hookV ob 12000 hLs w :=
  PySem.W.byRow2 "special-get-raises" (P := fun w => HandSHeadRun.RunEq R (PySem.W.view R.prog [106]) hookV ob 12000 hLs w) run0 run1 w
end Vk
set_option maxHeartbeats 4000000
/-! the law's def called at the top, no repr under way -/
namespace Vk
open PySem PySem.Spec PyProof.Rows L2
/-- a def whose body is told for one surrounding -/
theorem fn_here {CX : CXT} {P : Program} {w : World} {K : PySem.W.Frag} {mg : Str → Option Value} {base : Heap} {k : Nat} {f : Addr} {fd : FuncData} {x : Str} {st : Stmt} {N ps : List Str} (F : FunD K x x (defArgs st) (defBody st) (defScope st) [] [] f fd) (S : FnScope N ps (defScope st)) {Ar : Around} {outer : List Env} {sh : Shared} {Hh : Hp} {us : List Value} {xs : List V} {Q : VK} {E : XK} (room : Room (k + 1) Ar) (ee : Env0 P w K mg base Ar outer sh Hh) (bnd : BindsTo sh fd ⟨us, []⟩ (ps.zip us)) (rv : Vals xs us) (hl : xs.length = ps.length)
    (body : ∀ cdv, ∃ t, PSs (cxOf CX P w K mg base N x (defScope st) f cdv Ar outer sh Hh E) (defBody st) t ∧ t { nx := fun _ G => Q .non G, rt := Q } (start N xs) Hh) : codeAny (model P w) Ar (.call (.ref f) ⟨us, []⟩) (CR CX outer P w Hh sh Q E) sh := by
  obtain ⟨oc, od, dV, kV, doc, pm, an, cdv, ct, osl, rfl, lk, hcd, _, _⟩ := F.ex
  have kin : K.In sh.heap := ee.mod.kin.keeps fun c u q => (ee.bs c u q).1
  have nolim : sh.heap.NoLimit := ee.mod.nolimit.keeps fun c u q => (ee.bs c u q).1
  have kinds : ∀ z ∈ ps.zip us, (defScope st).names.lookup z.1 = some .local ∨ ((defScope st).names.lookup z.1 = some .cell ∧ ((cellsFrom (sh.heap.objs.size + 1) (defScope st).names []).lookup z.1).isSome = true) := fun z hz => (S.par z.1 (List.of_mem_zip (a := z.1) (b := z.2) hz).1).imp id fun c => ⟨c, PySem.W.cellsFrom_some _ _ _ (.inl c)⟩
  obtain ⟨t, ht, hq⟩ := body cdv
  refine codeAny_call_function room.depth (kin _ _ lk) rfl S.co S.gen rfl (PySem.W.codeRec_of kin hcd) (bnd _ _ _ _ (wpAny_newFunctionEnv_cells S.kind kinds fun env he s1 x1 => ?_))
  subst he
  have inv : L2.Inv (cxOf CX P w K mg base N x (defScope st) f cdv Ar outer sh Hh E) [] (start N xs) Hh s1 := inv_start S room.hd ee hl rv x1
  refine ⟨nolim.keeps x1.toInCall.keep, codeAny_func (wpAny_mono (ht.run [] s1 (start N xs) Hh _ inv hq) (fun fl s2 out => ?_) fun _ _ out => out)⟩
  cases fl with
  | ret u => obtain ⟨v, σ2, H2, J, r, q⟩ := out; exact ⟨v, H2, J.os, J.bare, J.base, J.hok, r, q⟩
  | next => obtain ⟨σ2, H2, J, q⟩ := out; exact ⟨.non, H2, J.os, J.bare, J.base, J.hok, rfl, q⟩
  | brk => obtain ⟨_, _, _, q⟩ := out; exact q.elim
  | cont => obtain ⟨_, _, _, q⟩ := out; exact q.elim
theorem law_here {w : World} {K : PySem.W.Frag} {mg mb : Str → Option Value} {fa a : Addr} {sh : Shared} {us : List Value} {is : List Int} (KX : K.In sh.heap) (gl : sh.heap.Ns mainGlobals mg) (bn : sh.heap.Ns builtinsNs mb) (bb : ∀ x : Str, x ≠ "__name__" → mb x = bootBuiltins x) (nl : sh.heap.NoLimit) (gn : sh.gens = #[])
    (at_ : sh.heap.get? a = some { cls := .type "list", data := .seq us.toArray }) (iar : IntsAre us is) (sm : is.length ≤ sizeLine)
    (F : ∀ (base : Heap) (G : Hp), K.In base → base.Ns mainGlobals mg → Env0 PP w K mg base callerA [] sh G → SqL K G a (is.map V.int) → codeAny (model PP w) callerA (.call (.ref fa) ⟨[.ref a], []⟩) (CR CX0 [] PP w G sh (fun v _ => v = .bl true) fun _ _ _ => False) sh) :
    codeAny (model PP w) callerA (.call (.ref fa) ⟨[.ref a], []⟩) (fun r s2 => r = .ok (.ret (.bool true)) ∧ OldK sh.heap s2.heap ∧ s2.os = sh.os ∧ AllBare s2.gens) sh := by
  have rel := vals_ints iar
  have core : ∀ G : Hp, (∀ b u, G b = some u → (b = a ∧ K.lookup a = none) ∧ ∃ o xs, u = .frz o (.lst xs)) → SqL K G a (is.map V.int) → HOk PP w G sh.heap →
      codeAny (model PP w) callerA (.call (.ref fa) ⟨[.ref a], []⟩) (fun r s2 => r = .ok (.ret (.bool true)) ∧ OldK sh.heap s2.heap ∧ s2.os = sh.os ∧ AllBare s2.gens) sh := fun G only sq hok => by
    have vis : ∀ {b : Addr} {o : Obj}, sh.heap.get? b = some o → G b = none → (hidT sh.heap G).get? b = some o := hidT_get
    have dic : ∀ {b : Addr} {m : Str → Option Value}, sh.heap.Ns b m → (hidT sh.heap G).Ns b m := fun {b m} ⟨o, es, ep, e, d, r⟩ => by
      refine ⟨o, es, ep, vis e ?_, d, r⟩
      cases q : G b with
      | none => rfl
      | some u =>
        rw [(only b u q).1.1, at_] at e
        cases e
        have d2 : Data.seq us.toArray _ = Data.dict es ep := d
        cases d2
    have kin : K.In (hidT sh.heap G) := fun b o e => vis (KX b o e) (by
      cases q : G b with
      | none => rfl
      | some u =>
        have z := (only b u q).1
        rw [z.1, z.2] at e
        cases e)
    have md : Mod K mg (hidT sh.heap G) := ⟨kin, dic gl, ⟨mb, dic bn, bb⟩, let ⟨mc, z1, z2⟩ := nl; ⟨mc, dic z1, z2⟩⟩
    have env : Env0 PP w K mg (hidT sh.heap G) callerA [] sh G := ⟨rfl, md, fun _ _ e => of_hidT e, Nat.le_of_eq (hidT_size _ _), trivial, (fun b hm => absurd (show b ∈ ([] : List Addr) from hm) List.not_mem_nil), hok, .of_eq gn⟩
    refine codeAny_mono (F _ G kin (dic gl) env sq) fun r s2 out => ?_
    match r, out with
    | .ok (.ret u), ⟨v, G2, os, bare, un, hok2, rv, e⟩ =>
      have e : v = .bl true := e
      subst e
      obtain rfl : u = Value.bool true := rv
      refine ⟨rfl, OldK.of_keep fun b o e => ?_, os, bare⟩
      cases q : G b with
      | none => exact un.keep b o e q (fun z => absurd (show b ∈ ([] : List Addr) from z) List.not_mem_nil) List.not_mem_nil
      | some u =>
        obtain ⟨_, ob, xs, rfl⟩ := only b u q
        have g1 := (hok b _ q).1
        have g2 := (hok2 b _ (un.frzs b ob _ q)).1
        rw [g1] at e
        cases e
        exact g2
    | .error e, out => exact False.elim (show False from out)
  cases hk : K.lookup a with
  | some o =>
    have e := KX a o hk
    rw [at_] at e
    cases e
    exact core (fun _ => none) (fun _ _ z => nomatch z) (.inr ⟨_, us.toArray, _, hk, rfl, rfl, rfl, by rw [List.size_toArray, iar.length]; exact sm, by simpa using rel⟩) fun _ _ z => nomatch z
  | none =>
    refine core (fun b => if b = a then some (.frz { cls := .type "list", data := .seq us.toArray } (.lst (is.map V.int))) else none) (fun b u z => ?_) (.inl (.inr ⟨_, if_pos rfl⟩)) fun b u z => ?_
    · by_cases hb : b = a
      · rw [if_pos hb] at z
        cases z
        exact ⟨⟨hb, hk⟩, _, _, rfl⟩
      · rw [if_neg hb] at z
        cases z
    · by_cases hb : b = a
      · dsimp only at z
        rw [if_pos hb] at z
        cases z
        rw [hb]
        exact ⟨at_, by rw [List.length_map]; exact sm, us, _, rel, at_⟩
      · dsimp only at z
        rw [if_neg hb] at z
        cases z
end Vk
set_option maxHeartbeats 0
/-! the law holds -/
namespace Vk
open PySem PySem.Spec PyProof.Rows L2
section
variable {w : World} {K : PySem.W.Frag} {h : Heap} {mg : Str → Option Value}
theorem defA_of (X : K.In h) (G : h.Ns mainGlobals mg) (c : He.SaysD hFa hFn K) (i : Nat) {n : Str} {st : Stmt} (e : hFn[i]? = some ⟨(n, none), n, n, defArgs st, defBody st, defScope st, [], []⟩) (eg : hFa[i]? = some (.glo n)) : DefA K mg n st := by
  obtain ⟨fd, F⟩ := c.def_ i e
  exact ⟨_, fd, F, He.glo_ok X G (c.fact i eg)⟩
theorem of_PrDefs (X : K.In h) (G : h.Ns mainGlobals mg) (c : He.SaysD hFa hFn K) : PrDefs K mg :=
  ⟨defA_of X G c 0 (n := "kind_of_value") (st := s_kind_of_value) rfl rfl,
   defA_of X G c 1 (n := "parts_of") (st := s_parts_of) rfl rfl,
   defA_of X G c 2 (n := "same") (st := s_same) rfl rfl,
   defA_of X G c 3 (n := "same_members") (st := s_same_members) rfl rfl,
   defA_of X G c 4 (n := "same_fields") (st := s_same_fields) rfl rfl,
   defA_of X G c 5 (n := "depth") (st := s_depth) rfl rfl,
   defA_of X G c 6 (n := "size") (st := s_size) rfl rfl,
   defA_of X G c 7 (n := "text_of") (st := s_text_of) rfl rfl,
   defA_of X G c 8 (n := "copied") (st := s_copied) rfl rfl,
   defA_of X G c 9 (n := "bounded_number") (st := s_bounded_number) rfl rfl,
   defA_of X G c 10 (n := "bounded_text") (st := s_bounded_text) rfl rfl,
   defA_of X G c 11 (n := "bounded") (st := s_bounded) rfl rfl,
   defA_of X G c 12 (n := "need_boolean") (st := s_need_boolean) rfl rfl,
   defA_of X G c 13 (n := "need_number") (st := s_need_number) rfl rfl,
   defA_of X G c 14 (n := "need_list") (st := s_need_list) rfl rfl,
   defA_of X G c 15 (n := "need_record") (st := s_need_record) rfl rfl,
   defA_of X G c 16 (n := "field_of") (st := s_field_of) rfl rfl,
   defA_of X G c 17 (n := "has_place") (st := s_has_place) rfl rfl,
   defA_of X G c 18 (n := "at_place") (st := s_at_place) rfl rfl,
   defA_of X G c 19 (n := "length_of") (st := s_length_of) rfl rfl,
   defA_of X G c 20 (n := "text_from") (st := s_text_from) rfl rfl,
   defA_of X G c 21 (n := "get_from") (st := s_get_from) rfl rfl,
   defA_of X G c 22 (n := "keys_of") (st := s_keys_of) rfl rfl,
   defA_of X G c 23 (n := "quotient") (st := s_quotient) rfl rfl,
   defA_of X G c 24 (n := "least_of") (st := s_least_of) rfl rfl,
   defA_of X G c 25 (n := "greatest_of") (st := s_greatest_of) rfl rfl,
   defA_of X G c 26 (n := "call_function") (st := s_call_function) rfl rfl,
   defA_of X G c 27 (n := "add") (st := s_add) rfl rfl,
   defA_of X G c 28 (n := "calculate") (st := s_calculate) rfl rfl,
   defA_of X G c 29 (n := "compare") (st := s_compare) rfl rfl,
   defA_of X G c 30 (n := "operate") (st := s_operate) rfl rfl,
   defA_of X G c 31 (n := "evaluate_all") (st := s_evaluate_all) rfl rfl,
   defA_of X G c 32 (n := "evaluate_binary") (st := s_evaluate_binary) rfl rfl,
   defA_of X G c 33 (n := "evaluate_choice") (st := s_evaluate_choice) rfl rfl,
   defA_of X G c 34 (n := "evaluate_gathering") (st := s_evaluate_gathering) rfl rfl,
   defA_of X G c 35 (n := "evaluate_made") (st := s_evaluate_made) rfl rfl,
   defA_of X G c 36 (n := "evaluate_part") (st := s_evaluate_part) rfl rfl,
   defA_of X G c 37 (n := "evaluate") (st := s_evaluate) rfl rfl⟩
theorem of_LDefs (X : K.In h) (G : h.Ns mainGlobals mg) (c : He.SaysD hFa hFn K) : LDefs K mg :=
  ⟨defA_of X G c 44 (n := "_law_kind") (st := s_L_kind) rfl rfl,
   defA_of X G c 45 (n := "_law_same") (st := s_L_same) rfl rfl,
   defA_of X G c 46 (n := "_law_parts") (st := s_L_parts) rfl rfl,
   defA_of X G c 47 (n := "_law_depth") (st := s_L_depth) rfl rfl,
   defA_of X G c 48 (n := "_law_size") (st := s_L_size) rfl rfl,
   defA_of X G c 49 (n := "_law_text_of") (st := s_L_text_of) rfl rfl,
   defA_of X G c 50 (n := "_law_made") (st := s_L_made) rfl rfl,
   defA_of X G c 51 (n := "_law_bounded") (st := s_L_bounded) rfl rfl,
   defA_of X G c 52 (n := "_law_joined") (st := s_L_joined) rfl rfl,
   defA_of X G c 53 (n := "_law_quotient") (st := s_L_quotient) rfl rfl,
   defA_of X G c 54 (n := "_law_sum") (st := s_L_sum) rfl rfl,
   defA_of X G c 55 (n := "_law_operate") (st := s_L_operate) rfl rfl,
   defA_of X G c 56 (n := "_law_at") (st := s_L_at) rfl rfl,
   defA_of X G c 57 (n := "_law_field") (st := s_L_field) rfl rfl,
   defA_of X G c 58 (n := "_law_call") (st := s_L_call) rfl rfl,
   defA_of X G c 69 (n := "_law_all") (st := s_L_all) rfl rfl,
   defA_of X G c 70 (n := "_law_boolean") (st := s_L_boolean) rfl rfl,
   defA_of X G c 71 (n := "_law_gathered") (st := s_L_gathered) rfl rfl,
   defA_of X G c 72 (n := "_law_two") (st := s_L_two) rfl rfl,
   defA_of X G c 73 (n := "_law_one") (st := s_L_one) rfl rfl,
   defA_of X G c 74 (n := "_law_written") (st := s_L_written) rfl rfl,
   defA_of X G c 75 (n := "_law_eval") (st := s_L_eval) rfl rfl⟩
theorem of_GDefs (X : K.In h) (G : h.Ns mainGlobals mg) (c : He.SaysD hFa hFn K) : GDefs K mg :=
  ⟨defA_of X G c 40 (n := "_law_digit") (st := s_L_digit) rfl rfl,
   defA_of X G c 41 (n := "_law_text") (st := s_L_text) rfl rfl,
   defA_of X G c 42 (n := "_law_number") (st := s_L_number) rfl rfl,
   defA_of X G c 43 (n := "_law_value") (st := s_L_value) rfl rfl,
   defA_of X G c 61 (n := "_law_literal") (st := s_L_literal) rfl rfl,
   defA_of X G c 62 (n := "_law_leaf") (st := s_L_leaf) rfl rfl,
   defA_of X G c 63 (n := "_law_function") (st := s_L_function) rfl rfl,
   defA_of X G c 64 (n := "_law_many") (st := s_L_many) rfl rfl,
   defA_of X G c 65 (n := "_law_made_of") (st := s_L_made_of) rfl rfl,
   defA_of X G c 66 (n := "_law_signed") (st := s_L_signed) rfl rfl,
   defA_of X G c 67 (n := "_law_expression") (st := s_L_expression) rfl rfl,
   defA_of X G c 68 (n := "_law_environment") (st := s_L_environment) rfl rfl⟩
theorem of_Nm (X : K.In h) (G : h.Ns mainGlobals mg) (c : He.SaysD hFa hFn K) : Nm mg :=
  ⟨He.free_ok X G (c.fact 78 (f := .free "len") rfl),
   He.free_ok X G (c.fact 79 (f := .free "isinstance") rfl),
   He.free_ok X G (c.fact 80 (f := .free "int") rfl),
   He.free_ok X G (c.fact 81 (f := .free "str") rfl),
   He.free_ok X G (c.fact 82 (f := .free "list") rfl),
   He.free_ok X G (c.fact 83 (f := .free "dict") rfl),
   He.free_ok X G (c.fact 84 (f := .free "bool") rfl),
   He.free_ok X G (c.fact 85 (f := .free "tuple") rfl),
   He.free_ok X G (c.fact 86 (f := .free "range") rfl),
   He.free_ok X G (c.fact 87 (f := .free "max") rfl),
   He.free_ok X G (c.fact 88 (f := .free "min") rfl),
   He.free_ok X G (c.fact 89 (f := .free "sum") rfl),
   He.free_ok X G (c.fact 90 (f := .free "abs") rfl),
   He.free_ok X G (c.fact 91 (f := .free "sorted") rfl),
   He.free_ok X G (c.fact 92 (f := .free "repr") rfl)⟩
theorem of_Cst (X : K.In h) (G : h.Ns mainGlobals mg) (c : He.SaysD hFa hFn K) : Cst mg :=
  ⟨He.int_ok X G (c.fact 97 (f := .int "MOST_NUMBER" 1000000000000000000000000000000) rfl),
   He.int_ok X G (c.fact 98 (f := .int "MOST_CHARACTERS" 2000) rfl),
   He.int_ok X G (c.fact 99 (f := .int "MOST_MEMBERS" 200) rfl),
   He.int_ok X G (c.fact 100 (f := .int "MOST_DEPTH" 20) rfl),
   He.int_ok X G (c.fact 101 (f := .int "MOST_SIZE" 2000) rfl)⟩
theorem of_Flt (X : K.In h) (G : h.Ns mainGlobals mg) (c : He.SaysD hFa hFn K) (e : iniW K = iniV) (t : exB K = true) : FltTxt K mg (cF K) (cV K) (iF K) (lF K) (kF K) := by
  unfold exB at t
  simp only [Bool.and_eq_true] at t
  obtain ⟨t1, t2, t3, t4, t5, t6, t7, t8, t9, t10, t11, t12, t13, t14, t15, t16, t17, t18, t19, t20, t21, t22⟩ := t
  exact ⟨He.glo_ok X G (c.fact 94 (f := .glo "Fault") rfl), He.glo_ok X G (c.fact 95 (f := .glo "ViewError") rfl), He.free_ok X G (c.fact 93 (f := .free "super") rfl), clsB_ok t1, He.eqO_ok t2, He.eqO_ok t3, of_decide_eq_true t4, of_decide_eq_true t5, He.eqO_ok t6, He.eqO_ok t7, He.eqO_ok t8, He.eqO_ok t9, He.eqO_ok t10, of_decide_eq_true t11, t12, of_decide_eq_true t13, of_decide_eq_true t14, t15, of_decide_eq_true t16, ini_ok e t17, t18, fileB_ok t19, cellB_ok t20⟩
theorem of_Sys (t : exB K = true) : ∃ o, K.lookup sysModules = some o ∧ o.cls ≠ .type "list" := by
  unfold exB at t
  simp only [Bool.and_eq_true] at t
  obtain ⟨t1, t2, t3, t4, t5, t6, t7, t8, t9, t10, t11, t12, t13, t14, t15, t16, t17, t18, t19, t20, t21, t22⟩ := t
  obtain ⟨es, n, sl, q⟩ := He.dictB_ok t22
  exact ⟨_, q, fun z => absurd (Value.type.inj z) (by decide)⟩
theorem of_Tab (X : K.In h) (G : h.Ns mainGlobals mg) (c : He.SaysD hFa hFn K) (d : He.dicW K (He.ga K "FUNCTIONS") = some (He.keysIn w.params fKeys)) (t : exB K = true) : FnTab K w mg := by
  unfold exB at t
  simp only [Bool.and_eq_true] at t
  obtain ⟨t1, t2, t3, t4, t5, t6, t7, t8, t9, t10, t11, t12, t13, t14, t15, t16, t17, t18, t19, t20, t21, t22⟩ := t
  obtain ⟨es, n, q, lit, _⟩ := He.dicW_ok d
  refine ⟨_, He.glo_ok X G (c.fact 96 (f := .glo "FUNCTIONS") rfl), fun fn f hf => ?_⟩
  have key : ∀ m : Str × He.Dv, m ∈ fVals → ∃ u, PySem.W.nsIn K (He.ga K "FUNCTIONS") m.1 = some (some u) ∧ RelV (m.2.v K) u := fun m hm => He.valsB_ok t21 hm
  have gl : mg (Fn.py fn) = some (.ref (He.ga K (Fn.py fn))) := by
    cases fn with
    | length => exact He.glo_ok X G (c.fact 19 (f := .glo "length_of") rfl)
    | text => exact He.glo_ok X G (c.fact 20 (f := .glo "text_from") rfl)
    | get => exact He.glo_ok X G (c.fact 21 (f := .glo "get_from") rfl)
    | keys => exact He.glo_ok X G (c.fact 22 (f := .glo "keys_of") rfl)
    | min => exact He.glo_ok X G (c.fact 24 (f := .glo "least_of") rfl)
    | max => exact He.glo_ok X G (c.fact 25 (f := .glo "greatest_of") rfl)
  have ef : f = He.ga K (Fn.py fn) := Value.ref.inj (Option.some.inj (hf.symm.trans gl))
  subst ef
  have hm : (Fn.s fn, He.Dv.glo (Fn.py fn)) ∈ fVals := by
    cases fn with
    | length => exact List.mem_of_getElem? (i := 0) rfl
    | text => exact List.mem_of_getElem? (i := 1) rfl
    | get => exact List.mem_of_getElem? (i := 2) rfl
    | keys => exact List.mem_of_getElem? (i := 3) rfl
    | min => exact List.mem_of_getElem? (i := 4) rfl
    | max => exact List.mem_of_getElem? (i := 5) rfl
  obtain ⟨u, hu, ru⟩ := key _ hm
  exact ⟨es, n, u, q, lit, hu, ru⟩
/-- the law's def, called by the caller -/
theorem law_called (X : K.In h) (G : h.Ns mainGlobals mg) (c : obsV K = valW w) {fa : Addr} (mf : mg ("law" : Str) = some (.ref fa)) {base : Heap} {sh : Shared} {Hh : Hp} {a : Addr} {is : List Int} (ee : Env0 PP w K mg base callerA [] sh Hh) (sq : SqL K Hh a (is.map V.int)) :
    codeAny (model PP w) callerA (.call (.ref fa) ⟨[.ref a], []⟩) (CR CX0 [] PP w Hh sh (fun v _ => v = .bl true) fun _ _ _ => False) sh := by
  have c1 : He.SaysD hFa hFn K := congrArg (fun z : AlV => z.1) c
  have c2 : He.dicW K (He.ga K "FUNCTIONS") = some (He.keysIn w.params fKeys) := congrArg (fun z : AlV => z.2.1) c
  have c3 : iniW K = iniV := congrArg (fun z : AlV => z.2.2.1) c
  have c4 : exB K = true := congrArg (fun z : AlV => z.2.2.2) c
  have P := of_PrDefs X G c1
  have L := of_LDefs X G c1
  have M := of_GDefs X G c1
  have z := of_Nm X G c1
  have y := of_Cst X G c1
  have T := of_Flt X G c1 c3 c4
  have S := of_Sys c4
  have FT := of_Tab X G c1 c2 c4
  have c := c1
  have ev := prog_evaluate (w := w) (base := base) P z y T FT 6
  have le := law_eval (w := w) (base := base) L z 6
  have kd := cal_L_kind (w := w) (base := base) L.d_law_kind z
  have po := cal_L_partsO (w := w) (base := base) L.d_law_parts z kd
  have sm := cal_L_same_n (w := w) (base := base) L.d_law_same z kd 41
  have dg := cal_L_digit (w := w) (base := base) M.d_law_digit z
  have ge := gen_expr (w := w) (base := base) M z 5
  have gn := gen_env (w := w) (base := base) M z
  have ce := cal_L_cell (w := w) (base := base) (defA_of X G c 38 (n := "_law_cell") (st := s_L_cell) rfl rfl) z
  have sa := cal_L_start (w := w) (base := base) (defA_of X G c 39 (n := "_law_start") (st := s_L_start) rfl rfl) z
  have evd := cal_L_evaluated (w := w) (base := base) (defA_of X G c 59 (n := "_law_evaluated") (st := s_L_evaluated) rfl rfl) z T ev
  have ri := cal_L_right (w := w) (base := base) (defA_of X G c 60 (n := "_law_right") (st := s_L_right) rfl rfl) sm
  have sp := cal_L_spoil_n (w := w) (base := base) (defA_of X G c 76 (n := "_law_spoil") (st := s_L_spoil) rfl rfl) z kd po 20
  have D : DefA K mg "law" s_law := defA_of X G c 77 (n := "law") (st := s_law) rfl rfl
  obtain ⟨f, fd, F, ml⟩ := D
  have ef : f = fa := Value.ref.inj (Option.some.inj (ml.symm.trans mf))
  subst ef
  have room : Room 76 callerA := ⟨rfl, by decide, by decide⟩
  have b := FunD.bindsA (ps := ["_law_script"]) F fun _ _ _ _ _ _ us hl => match us, hl with | [_], _ => rfl
  exact fn_here (xs := [V.ref a]) F sc_law room ee (b sh [.ref a] rfl) (.cons rfl .nil) rfl fun cdv => law_body z S (ce.mono (by decide)) (sa.mono (by decide)) (dg.mono (by decide)) (gn.mono (by decide)) (ge.mono (by decide)) evd (le.mono (by decide)) (ri.mono (by decide)) (sp.mono (by decide)) f cdv callerA [] sh Hh [V.ref a] (fun v _ => v = .bl true) (fun _ _ _ => False) rfl (room.deeper _) ⟨a, is, rfl, sq, fun _ => rfl⟩
end
end Vk
open PySem PySem.W PySem.Calls PyProof.Rows
theorem PySem.Challenge.cw_viewloom_k19_whole_expressions_holds : PySem.Challenge.rw_viewloom_k19_whole_expressions.Holds := by
  w_on; o_law
  refine HandSHeadRun.head_any (r := Vk.R) (q := view Vk.R.prog [106]) (H := Vk.hookV) (ob := Vk.ob) (M := 12000) (loose := Vk.hLs) (d := HandSHeadRun.topDef Vk.R.prog 106) (kwd := []) Vk.ob_eq (by kernel_rfl) (fun s => by kernel_rfl) Vk.run (by kernel_rfl) (by kernel_rfl) (by kernel_rfl) (by rfl)
    (by first | assumption | decide +kernel) (by decide +kernel) ⟨rfl, rfl, rfl, rfl, rfl, by decide +kernel⟩ ?hw ?hc
  case hw => w_witness2
  case hc =>
    refine Att.attach_call (l := PySem.Challenge.rw_viewloom_k19_whole_expressions) (n := 63) rfl (by kernel_rfl) fun w s₀ s₁ mg mb fa o pm cd doc a vs ns G Y ho hd hcd hmg hobj hints hlen hg => ?_
    obtain ⟨K, KX, c⟩ := Y
    have mf : mg ("law" : PySem.Str) = some (.ref fa) := by
      have e : (HandSHeadRun.topDef Vk.R.prog 106).name = ("law" : PySem.Str) := by kernel_rfl
      rw [← e]
      exact hmg
    exact Vk.law_here KX G.T.g G.T.b G.T.builtins G.T.nolimit hg hobj hints (Nat.le_trans hlen (by decide)) fun base Hh kin gl ee sq => Vk.law_called KX G.T.g c mf ee sq
